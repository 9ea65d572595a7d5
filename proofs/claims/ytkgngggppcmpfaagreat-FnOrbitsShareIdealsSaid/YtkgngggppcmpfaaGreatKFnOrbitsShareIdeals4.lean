/- Laws about the given program: the law FnOrbitsShareIdeals answers true for every input that its row lets in; no condition is added to the given statement. Contracts of the Go functions that it reaches, and the plain proof over lists. -/
import Derived.Test.YtkgngggppcmpfaaGreatWFnOrbitsShareIdeals0
import Derived.Test.YtkgngggppcmpfaaGreatKFnOrbitsShareIdeals0
import Derived.Test.YtkgngggppcmpfaaGreatKFnOrbitsShareIdeals1
import Derived.Test.YtkgngggppcmpfaaGreatKFnOrbitsShareIdeals2
import Derived.Test.YtkgngggppcmpfaaGreatKFnOrbitsShareIdeals3
section
namespace Go.Proofs.YtkgngggppcmpfaaGreat.L
open Go.RowKit Go.Proofs.YtkgngggppcmpfaaGreatW.PrintWords Go.Proofs.YtkgngggppcmpfaaGreatW.PrintLast Go.Proofs.YtkgngggppcmpfaaGreatW.PrintMore Go.Proofs.YtkgngggppcmpfaaGreat.X
attribute [local go_sem] Q2 Q4 Qbd Qbe Qz Q0 Q3 Q5
set_option linter.unusedVariables false
set_option linter.unusedSimpArgs false
def Qc1.f (k : Nat) (l0_0 : List Int) : Option (Int × Bool) := (Qy.f k l0_0).bind fun t411 => (if t411 = true then ((Qbm.f k l0_0).bind fun t412 => ((Qba.f k t412).bind fun t415 => ((Qcg.f k t415 1000000000000000).bind fun bt418 => (some (bt418.1, bt418.2))))) else (some (0, false)))
theorem Qc1.mono : ∀ a0 k, LeO (Qc1.f k a0) (Qc1.f (k + 1) a0) := by
 intro a0 k;unfold Qc1.f
 repeat' (with_reducible first|apply Qy.mono|apply Qbm.mono|apply Qcg.mono|apply Qba.mono|exact LeO.refl _|exact LeO.none _|refine LeO.ite ?_ ?_|refine LeO.bind ?_ (fun _=> ?_))
set_option maxHeartbeats 8000000 in
set_option maxRecDepth 100000 in
theorem Qc1.calls (k : Nat) (A0_0 : Option Addr) (c0_0 : Nat) (l0_0 : List Int) (r1 : Int) (r2 : Bool) (w : World) (hr0_0 : Kd.C (Kd.int .i64) w A0_0 l0_0.length l0_0) (hc0_0 : l0_0.length ≤ c0_0) (h : Qc1.f k l0_0 = some (r1, r2)) :
 Calls Tryz.prog 39 #[.agg #[.slice A0_0 l0_0.length c0_0]] w fun e w'=>e= .returned (.tuple #[.int .i64 r1, .bool r2])∧Below w.heap.size w w':=by
 have hu26:=Tryz.underlying26;have HR0_0:=Aside0.mk hr0_0;have HC0_0:=Aside0.mk hc0_0;clear hr0_0 hc0_0;have HB:=Aside0.mk (Below.refl w.heap.size w);have H:((Qy.f k l0_0).bind fun t411=>(if t411=true then ((Qbm.f k l0_0).bind fun t412=>((Qba.f k t412).bind fun t415=>((Qcg.f k t415 1000000000000000).bind fun bt418=>(some (bt418.1,bt418.2))))) else (some (0,false))))=some (r1,r2):=h;clear h;obtain ⟨t411,A2,H⟩:=bs H;(try dsimp only at H)
 by_cases c3:t411=true
 ·
  subst c3;rw [if_pos rfl] at H;obtain ⟨t412,A4,H⟩:=bs H;(try dsimp only at H)
  obtain ⟨t415,A5,H⟩:=bs H;(try dsimp only at H)
  obtain ⟨⟨t418,t419⟩,A6,H⟩:=bs H;(try dsimp only at H)
  simp only [Option.some.injEq,Prod.mk.injEq] at H;obtain ⟨rfl,rfl⟩:=H;go_enter Tryz.func39,Tryz.ntmps39;go_wp2_with (first|(refine bE (N:=1) (cs:= #[.slice A0_0 l0_0.length c0_0]) (t:=26) ?_;intro gb410 hg w7 hbox hb;have BK410:=Aside0.mk (hbox);have GW410:=Aside0.mk ((by rw [hg];exact (Qd (uB HB)):w.heap.size≤gb410));have GE410:=GW410;replace HB:=Aside0.mk (Qc (uB HB) hb);clear hb hbox hg;have hcz8_0:=bC BK410;have hfz8_0:=Qe BK410.out 0)|(refine gA (some 5) Tryz.func178 #[.agg #[.slice A0_0 l0_0.length c0_0]] ?_;(with_reducible refine (Qy.calls k _ _ l0_0 true _ (uD HR0_0 HB) HC0_0.out A2.out).mono ?_);rintro e w9 ⟨rfl,hb⟩;refine ⟨_,rfl,?_⟩;replace BK410:=Aside0.mk (Qb (uK BK410) hb);replace HB:=Aside0.mk (Qc (vB HB) hb);(try clear hb);have hcz10_0:=bC BK410;have hfz10_0:=Qe BK410.out 0)|(refine gA (some 8) Tryz.func182 #[.agg #[.slice A0_0 l0_0.length c0_0]] ?_;(with_reducible refine (Qbm.calls k _ _ l0_0 t412 _ (uD HR0_0 HB) HC0_0.out A4.out).mono ?_);rintro e w11 ⟨v413,rfl,ho0,hb⟩;refine ⟨_,rfl,?_⟩;have HO414:=Aside0.mk (Kd.S_lower ho0 (Qd (vB HB)));replace BK410:=Aside0.mk (Qb (uK BK410) hb);replace HB:=Aside0.mk (Qc (vB HB) hb);(try clear hb ho0);obtain ⟨Ao12,co12,eo12⟩:=Kd.S_slice HO414.out;subst eo12)|(refine gA (some 9) Tryz.func185 #[.slice Ao12 t412.length co12] ?_;(with_reducible refine (Qba.calls k _ _ t412 t415 _ ?side1 ?side2 A5.out).mono ?_);(case side1=>repeat (first|exact (Kd.S_reads' HO414.out).2.2|(with_reducible refine Kd.C_alloc ?_ _)|(with_reducible refine Kd.C_drewN ?_ _)|(with_reducible refine Kd.C_drew ?_)));(case side2=>exact (Kd.S_reads' HO414.out).2.1);rintro e w13 ⟨v416,rfl,ho0,hb⟩;refine ⟨_,rfl,?_⟩;replace HO414:=Aside0.mk (Kd.S_elder' (uS HO414) (Kd.R_base ho0) hb);have HO417:=Aside0.mk (Kd.R_lower ho0 (Qd (vB HB)));replace BK410:=Aside0.mk (Qb (uK BK410) hb);replace HB:=Aside0.mk (Qc (vB HB) hb);(try clear hb ho0);obtain ⟨Ao14,co14,eo14⟩:=Kd.R_slice HO417.out;subst eo14)|(refine gA (some 10) Tryz.func187 #[.slice Ao14 t415.length co14, .int .i64 1000000000000000] ?_;(with_reducible refine (Qcg.calls k _ _ t415 1000000000000000 t418 t419 _ (uE HO417) ?side2 A6.out).mono ?_);(case side2=>exact (Kd.R_reads' HO417.out).2.1);rintro e w' ⟨rfl,⟨nd,rfl⟩⟩;refine ⟨_,rfl,?_⟩))
  go_ret2
  exact ⟨by first|rfl|(simp [Qf,Qg] <;>rfl)|(simp [*,Qf,Qg] <;>rfl),(vB HB)⟩
 ·
  replace c3:=Bool.eq_false_iff.mpr c3;subst c3;rw [if_neg (show ¬ (false=true) by decide)] at H;simp only [Option.some.injEq,Prod.mk.injEq] at H;obtain ⟨rfl,rfl⟩:=H;go_enter Tryz.func39,Tryz.ntmps39;go_wp2_with (first|(refine bE (N:=1) (cs:= #[.slice A0_0 l0_0.length c0_0]) (t:=26) ?_;intro gb410 hg w15 hbox hb;have BK410:=Aside0.mk (hbox);have GW410:=Aside0.mk ((by rw [hg];exact (Qd (uB HB)):w.heap.size≤gb410));have GE410:=GW410;replace HB:=Aside0.mk (Qc (uB HB) hb);clear hb hbox hg;have hcz16_0:=bC BK410;have hfz16_0:=Qe BK410.out 0)|(refine gA (some 5) Tryz.func178 #[.agg #[.slice A0_0 l0_0.length c0_0]] ?_;(with_reducible refine (Qy.calls k _ _ l0_0 false _ (uD HR0_0 HB) HC0_0.out A2.out).mono ?_);rintro e w17 ⟨rfl,hb⟩;refine ⟨_,rfl,?_⟩;replace BK410:=Aside0.mk (Qb (uK BK410) hb);replace HB:=Aside0.mk (Qc (vB HB) hb);(try clear hb)))
  go_ret2
  exact ⟨by first|rfl|(simp [Qf,Qg] <;>rfl)|(simp [*,Qf,Qg] <;>rfl),(vB HB)⟩
def Qcb.f : Nat → Int → Int → Option (Int)
 |0,_,_=>none
 |k+1,a0,a1=>if a1=0 then (some a0) else ((Qcb.f k a1 (Int.tmod a0 a1)).bind fun t420=>(some t420))
theorem Qcb.mono_l : ∀ k, (∀ y0 y1, LeO (Qcb.f k y0 y1) (Qcb.f (k + 1) y0 y1))
 |0=>fun _ _ r h=>by simp [Qcb.f] at h
 |k+1=>by
  have ih0:=Qcb.mono_l k
  ·
   intro y0 y1;unfold Qcb.f
   repeat' first
   |(with_reducible exact ih0 _ _)
   |(with_reducible exact LeO.refl _)
   |(with_reducible exact LeO.none _)
   |(with_reducible refine LeO.ite ?_ ?_)
   |(with_reducible refine LeO.bind ?_ (fun _=> ?_))
   |exact ih0 _ _
   |exact LeO.none _
   |refine LeO.ite ?_ ?_
   |refine LeO.bind ?_ (fun _=> ?_)
theorem Qcb.mono : ∀ a0 a1 k, LeO (Qcb.f k a0 a1) (Qcb.f (k + 1) a0 a1) := by
 intro a0 a1 k;have ih0:=Qcb.mono_l k;exact ih0 a0 a1
set_option maxHeartbeats 8000000 in
set_option maxRecDepth 100000 in
theorem Qcb.calls (k : Nat) : ∀ (a0 : Int) (a1 : Int) (r : Int) (w : World) (h : Qcb.f k a0 a1 = some r),
 Calls Tryz.prog 188 #[.int .i64 a0, .int .i64 a1] w fun e w'=>e= .returned (.int .i64 r)∧Drawn0 w w':=by
 induction k using Nat.strongRecOn with
 |_ k ih=>
 intro a0 a1 r w h;cases k with
 |zero=>exact absurd h (by simp [Qcb.f])
 |succ k=>
 simp only [Qcb.f] at h;have H:(if a1=0 then (some a0) else ((Qcb.f k a1 (Int.tmod a0 a1)).bind fun t420=>(some t420)))=some r:=h;clear h
 by_cases c3:a1=0
 ·
  rw [if_pos c3] at H;have c3b0:(a1==0)=true:=beq_iff_eq.mpr c3;have c3b1:(a1 !=0)=false:=bne_eq_false_iff_eq.mpr c3;clear c3;obtain rfl:=Option.some.inj H;go_enter Tryz.func188,Tryz.ntmps188;go_wp2
  go_ret
  exact ⟨by first|rfl|(simp;done)|(simp [*];done),by repeat (first|exact Drawn0.refl _|apply Drawn0.step)⟩
 ·
  rw [if_neg c3] at H;have c3b0:(a1==0)=false:=beq_eq_false_iff_ne.mpr c3;have c3b1:(a1 !=0)=true:=bne_iff_ne.mpr c3;obtain ⟨t420,A4,H⟩:=bs H;(try dsimp only at H)
  obtain rfl:=Option.some.inj H;go_enter Tryz.func188,Tryz.ntmps188;go_wp2_with (first|(refine gA (some 12) Tryz.func188 #[.int .i64 a1, .int .i64 (Int.tmod a0 a1)] ?_;(with_reducible refine (ih k (by omega) a1 (Int.tmod a0 a1) t420 _ A4.out).mono ?_);rintro e w' ⟨rfl,⟨nd,rfl⟩⟩;refine ⟨_,rfl,?_⟩))
  go_ret
  exact ⟨by first|rfl|(simp;done)|(simp [*];done),by repeat (first|exact Drawn0.refl _|apply Drawn0.step)⟩
def Qbt.l0 : Nat → Int → List Int → Int → Int → Option (Int × Bool)
 |0,_,_,_,_=>none
 |k+1,x4,x11,x12,x13=>if x13<x12 then (if 0≤x13 then (if x13<(x11.length:Int) then ((Qcb.f k x4 (rd x11 x13)).bind fun t427=>(if t427=0 then (none) else (if (rd x11 x13)=0 then (none) else (if (wrap64 (Int.tdiv x4 t427))>(wrap64 ((1000000000000000:Int) / (rd x11 x13))) then (some (0,false)) else ((Qcb.f k x4 (rd x11 x13)).bind fun t428=>(if t428=0 then (none) else (Qbt.l0 k (wrap64 ((wrap64 (Int.tdiv x4 t428))*(rd x11 x13))) x11 x12 (wrap64 (x13+1))))))))) else (none)) else (none)) else (some (x4,true))
def Qbt.f (k : Nat) (l0_0 : List Int) : Option (Int × Bool) := (Qn.f k l0_0).bind fun t422 => (if t422 = true then ((Qbc.f k l0_0).bind fun t423 => (Qbt.l0 k 1 t423 (t423.length : Int) 0)) else (some (0, false)))
theorem Qbt.mono_l : ∀ k, (∀ y0 y1 y2 y3, LeO (Qbt.l0 k y0 y1 y2 y3) (Qbt.l0 (k + 1) y0 y1 y2 y3))
 |0=>fun _ _ _ _ r h=>by simp [Qbt.l0] at h
 |k+1=>by
  have ih0:=Qbt.mono_l k
  ·
   intro y0 y1 y2 y3;unfold Qbt.l0
   repeat' first
   |(with_reducible exact ih0 _ _ _ _)
   |(with_reducible exact Qbc.mono _ _)
   |(with_reducible exact Qn.mono _ _)
   |(with_reducible exact Qcb.mono _ _ _)
   |(with_reducible exact LeO.refl _)
   |(with_reducible exact LeO.none _)
   |(with_reducible refine LeO.ite ?_ ?_)
   |(with_reducible refine LeO.bind ?_ (fun _=> ?_))
   |exact ih0 _ _ _ _
   |exact Qbc.mono _ _
   |exact Qn.mono _ _
   |exact Qcb.mono _ _ _
   |exact LeO.none _
   |refine LeO.ite ?_ ?_
   |refine LeO.bind ?_ (fun _=> ?_)
theorem Qbt.mono : ∀ a0 k, LeO (Qbt.f k a0) (Qbt.f (k + 1) a0) := by
 intro a0 k;have ih0:=Qbt.mono_l k;unfold Qbt.f
 repeat' (with_reducible first|apply ih0|apply Qbc.mono|apply Qn.mono|apply Qcb.mono|exact LeO.refl _|exact LeO.none _|refine LeO.ite ?_ ?_|refine LeO.bind ?_ (fun _=> ?_))
set_option maxHeartbeats 8000000 in
set_option maxRecDepth 100000 in
theorem Qbt.calls (k : Nat) (A0_0 : Option Addr) (c0_0 : Nat) (l0_0 : List Int) (r1 : Int) (r2 : Bool) (w : World) (hr0_0 : Kd.C (Kd.int .i64) w A0_0 l0_0.length l0_0) (hc0_0 : l0_0.length ≤ c0_0) (h : Qbt.f k l0_0 = some (r1, r2)) :
 Calls Tryz.prog 40 #[.agg #[.slice A0_0 l0_0.length c0_0]] w fun e w'=>e= .returned (.tuple #[.int .i64 r1, .bool r2])∧Below w.heap.size w w':=by
 have hu26:=Tryz.underlying26;have HR0_0:=Aside0.mk hr0_0;have HC0_0:=Aside0.mk hc0_0;clear hr0_0 hc0_0;have HB:=Aside0.mk (Below.refl w.heap.size w);have H:((Qn.f k l0_0).bind fun t422=>(if t422=true then ((Qbc.f k l0_0).bind fun t423=>(Qbt.l0 k 1 t423 (t423.length:Int) 0)) else (some (0,false))))=some (r1,r2):=h;clear h;obtain ⟨t422,A2,H⟩:=bs H;(try dsimp only at H)
 by_cases c3:t422=true
 ·
  subst c3;rw [if_pos rfl] at H;obtain ⟨t423,A4,H⟩:=bs H;(try dsimp only at H)
  have H':=Aside0.mk H;clear H;go_enter Tryz.func40,Tryz.ntmps40;go_wp2_with (first|(refine bE (N:=1) (cs:= #[.slice A0_0 l0_0.length c0_0]) (t:=26) ?_;intro gb421 hg w5 hbox hb;have BK421:=Aside0.mk (hbox);have GW421:=Aside0.mk ((by rw [hg];exact (Qd (uB HB)):w.heap.size≤gb421));have GE421:=GW421;replace HB:=Aside0.mk (Qc (uB HB) hb);clear hb hbox hg;have hcz6_0:=bC BK421;have hfz6_0:=Qe BK421.out 0)|(go_at_call 183;(with_reducible refine (Qn.calls k _ _ l0_0 true _ (uD HR0_0 HB) HC0_0.out A2.out).mono ?_);rintro e w7 ⟨rfl,hb⟩;replace BK421:=Aside0.mk (Qb (uK BK421) hb);replace HB:=Aside0.mk (Qc (vB HB) hb);(try clear hb);have hcz8_0:=bC BK421;have hfz8_0:=Qe BK421.out 0)|(go_at_call 186;(with_reducible refine (Qbc.calls k _ _ l0_0 t423 _ (uD HR0_0 HB) HC0_0.out A4.out).mono ?_);rintro e w9 ⟨v424,rfl,ho0,hb⟩;have HO425:=Aside0.mk (Kd.R_lower ho0 (Qd (vB HB)));replace BK421:=Aside0.mk (Qb (uK BK421) hb);replace HB:=Aside0.mk (Qc (vB HB) hb);(try clear hb ho0);obtain ⟨Ao10,co10,eo10⟩:=Kd.R_slice HO425.out;subst eo10))
  repeat (go_quiet (first|(refine bE (N:=1) (cs:= #[.slice A0_0 l0_0.length c0_0]) (t:=26) ?_;intro gb421 hg w5 hbox hb;have BK421:=Aside0.mk (hbox);have GW421:=Aside0.mk ((by rw [hg];exact (Qd (uB HB)):w.heap.size≤gb421));have GE421:=GW421;replace HB:=Aside0.mk (Qc (uB HB) hb);clear hb hbox hg;have hcz6_0:=bC BK421;have hfz6_0:=Qe BK421.out 0)|(go_at_call 183;(with_reducible refine (Qn.calls k _ _ l0_0 true _ (uD HR0_0 HB) HC0_0.out A2.out).mono ?_);rintro e w7 ⟨rfl,hb⟩;replace BK421:=Aside0.mk (Qb (uK BK421) hb);replace HB:=Aside0.mk (Qc (vB HB) hb);(try clear hb);have hcz8_0:=bC BK421;have hfz8_0:=Qe BK421.out 0)|(go_at_call 186;(with_reducible refine (Qbc.calls k _ _ l0_0 t423 _ (uD HR0_0 HB) HC0_0.out A4.out).mono ?_);rintro e w9 ⟨v424,rfl,ho0,hb⟩;have HO425:=Aside0.mk (Kd.R_lower ho0 (Qd (vB HB)));replace BK421:=Aside0.mk (Qb (uK BK421) hb);replace HB:=Aside0.mk (Qc (vB HB) hb);(try clear hb ho0);obtain ⟨Ao10,co10,eo10⟩:=Kd.R_slice HO425.out;subst eo10));try go_wp2_with (first|(refine bE (N:=1) (cs:= #[.slice A0_0 l0_0.length c0_0]) (t:=26) ?_;intro gb421 hg w5 hbox hb;have BK421:=Aside0.mk (hbox);have GW421:=Aside0.mk ((by rw [hg];exact (Qd (uB HB)):w.heap.size≤gb421));have GE421:=GW421;replace HB:=Aside0.mk (Qc (uB HB) hb);clear hb hbox hg;have hcz6_0:=bC BK421;have hfz6_0:=Qe BK421.out 0)|(go_at_call 183;(with_reducible refine (Qn.calls k _ _ l0_0 true _ (uD HR0_0 HB) HC0_0.out A2.out).mono ?_);rintro e w7 ⟨rfl,hb⟩;replace BK421:=Aside0.mk (Qb (uK BK421) hb);replace HB:=Aside0.mk (Qc (vB HB) hb);(try clear hb);have hcz8_0:=bC BK421;have hfz8_0:=Qe BK421.out 0)|(go_at_call 186;(with_reducible refine (Qbc.calls k _ _ l0_0 t423 _ (uD HR0_0 HB) HC0_0.out A4.out).mono ?_);rintro e w9 ⟨v424,rfl,ho0,hb⟩;have HO425:=Aside0.mk (Kd.R_lower ho0 (Qd (vB HB)));replace BK421:=Aside0.mk (Qb (uK BK421) hb);replace HB:=Aside0.mk (Qc (vB HB) hb);(try clear hb ho0);obtain ⟨Ao10,co10,eo10⟩:=Kd.R_slice HO425.out;subst eo10)))
  go_loopg [4,13] k (fun kq v4 v13 w'=> ∃ (x4_1:Int) (x13_1:Int),v4= .int .i64 x4_1∧v13= .int .i64 x13_1∧Aside0 (Qbt.l0 kq x4_1 t423 (t423.length:Int) x13_1=some (r1,r2))∧Aside0 (kq≤k)∧Aside0 (Kd.R (Kd.int .i64) 3 w' w.heap.size (fun _=>True) (.slice Ao10 t423.length co10) t423)∧Aside0 (w'.heap[gb421]? =some (.cells #[(.slice A0_0 l0_0.length c0_0)] 26 (0,0)))∧Aside0 (Below w.heap.size w w'))
  case atStart=>exact ⟨(1),(0),(by first|rfl|(simp;done)|(simp [*];done)),(by first|rfl|(simp;done)|(simp [*];done)),H',⟨Nat.le_refl _⟩,⟨uR HO425⟩,⟨uK BK421⟩,⟨(vB HB)⟩⟩
  case round=>
   clear H'
   try clear hcz6_0 hcz8_0 hfz6_0 hfz8_0
   obtain ⟨x4_1,x13_1,rfl,rfl,HA,HK1,HO_11,BK421,HB⟩:=hrel;cases gk with
   |zero=>exact absurd HA.out (by simp [Qbt.l0])
   |succ k1=>
    have H:=HA.out;clear HA;simp only [Qbt.l0] at H
    by_cases c11:x13_1<(t423.length:Int)
    ·
     rw [if_pos c11] at H;have c11b0:=decide_eq_true c11;clear c11
     by_cases c12:0≤x13_1
     ·
      rw [if_pos c12] at H;have c12b0:=decide_eq_true c12;clear c12
      by_cases c13:x13_1<(t423.length:Int)
      ·
       rw [if_pos c13] at H;have c13b0:=decide_eq_true c13;clear c13;obtain ⟨t427,A14,H⟩:=bs H;(try dsimp only at H)
       by_cases c15:t427=0
       ·
        rw [if_pos c15] at H;exact absurd H (by simp)
       ·
        rw [if_neg c15] at H;have c15b0:(t427==0)=false:=beq_eq_false_iff_ne.mpr c15;have c15b1:(t427 !=0)=true:=bne_iff_ne.mpr c15
        by_cases c16:(rd t423 x13_1)=0
        ·
         rw [if_pos c16] at H;exact absurd H (by simp)
        ·
         rw [if_neg c16] at H;have c16b0:((rd t423 x13_1)==0)=false:=beq_eq_false_iff_ne.mpr c16;have c16b1:((rd t423 x13_1) !=0)=true:=bne_iff_ne.mpr c16
         by_cases c17:(wrap64 (Int.tdiv x4_1 t427))>(wrap64 ((1000000000000000:Int) / (rd t423 x13_1)))
         ·
          rw [if_pos c17] at H;have c17b0:=decide_eq_true c17;have c17b0e:decide ((wrap64 (Int.tdiv 1000000000000000 (rd t423 x13_1)))<(wrap64 (Int.tdiv x4_1 t427)))=true:=by rw [Int.tdiv_eq_ediv_of_nonneg (by decide)];exact c17b0
          clear c17;simp only [Option.some.injEq,Prod.mk.injEq] at H;obtain ⟨rfl,rfl⟩:=H;have p426:0≤(x13_1:Int):=of_decide_eq_true (by first|(with_reducible assumption)|assumption);have q426:x13_1<(t423.length:Int):=of_decide_eq_true (by first|(with_reducible assumption)|assumption);obtain ⟨ad426,e426,hx426_0⟩:=Kd.at_int (Kd.R_reads' HO_11.out).2.2 x13_1 p426 q426;cases e426;replace p426:=eq_true p426;replace q426:=eq_true q426;go_wp2_with (first|(go_at_call 188;(with_reducible refine (Qcb.calls k1 x4_1 (rd t423 x13_1) t427 _ A14.out).mono ?_);rintro e w' ⟨rfl,⟨nd,rfl⟩⟩;(try first|exact ⟨rfl,_,World.drewN_drewN _ _ _⟩|exact ⟨rfl,_,Eq.trans (World.drewN_drewN _ _ _) (congrArg (World.drewN _) (Nat.add_assoc _ _ _))⟩)))
          repeat (go_quiet (first|(go_at_call 188;(with_reducible refine (Qcb.calls k1 x4_1 (rd t423 x13_1) t427 _ A14.out).mono ?_);rintro e w' ⟨rfl,⟨nd,rfl⟩⟩;(try first|exact ⟨rfl,_,World.drewN_drewN _ _ _⟩|exact ⟨rfl,_,Eq.trans (World.drewN_drewN _ _ _) (congrArg (World.drewN _) (Nat.add_assoc _ _ _))⟩)));try go_wp2_with (first|(go_at_call 188;(with_reducible refine (Qcb.calls k1 x4_1 (rd t423 x13_1) t427 _ A14.out).mono ?_);rintro e w' ⟨rfl,⟨nd,rfl⟩⟩;(try first|exact ⟨rfl,_,World.drewN_drewN _ _ _⟩|exact ⟨rfl,_,Eq.trans (World.drewN_drewN _ _ _) (congrArg (World.drewN _) (Nat.add_assoc _ _ _))⟩))))
          go_ret2
          exact ⟨by first|rfl|(simp [Qf,Qg] <;>rfl)|(simp [*,Qf,Qg] <;>rfl),(vB HB)⟩
         ·
          rw [if_neg c17] at H;have c17b0:=decide_eq_false c17;have c17b0e:decide ((wrap64 (Int.tdiv 1000000000000000 (rd t423 x13_1)))<(wrap64 (Int.tdiv x4_1 t427)))=false:=by rw [Int.tdiv_eq_ediv_of_nonneg (by decide)];exact c17b0
          clear c17;obtain ⟨t428,A18,H⟩:=bs H;(try dsimp only at H)
          have E_:=Aside0.mk (show t427=t428 from Option.some.inj (A14.out.symm.trans A18.out))
          by_cases c19:t428=0
          ·
           rw [if_pos c19] at H;exact absurd H (by simp)
          ·
           rw [if_neg c19] at H;have c19b0:(t428==0)=false:=beq_eq_false_iff_ne.mpr c19;have c19b1:(t428 !=0)=true:=bne_iff_ne.mpr c19;have H':=Aside0.mk H;clear H;have p426:0≤(x13_1:Int):=of_decide_eq_true (by first|(with_reducible assumption)|assumption);have q426:x13_1<(t423.length:Int):=of_decide_eq_true (by first|(with_reducible assumption)|assumption);obtain ⟨ad426,e426,hx426_0⟩:=Kd.at_int (Kd.R_reads' HO_11.out).2.2 x13_1 p426 q426;cases e426;replace p426:=eq_true p426;replace q426:=eq_true q426;go_wp2_with (first|(go_at_call 188;(with_reducible refine (Qcb.calls k1 x4_1 (rd t423 x13_1) t427 _ A14.out).mono ?_);rintro e w' ⟨rfl,⟨nd,rfl⟩⟩;(try first|exact ⟨rfl,_,World.drewN_drewN _ _ _⟩|exact ⟨rfl,_,Eq.trans (World.drewN_drewN _ _ _) (congrArg (World.drewN _) (Nat.add_assoc _ _ _))⟩))|(go_at_call 188;(with_reducible refine (Qcb.calls k1 x4_1 (rd t423 x13_1) t428 _ A18.out).mono ?_);rintro e w' ⟨rfl,⟨nd,rfl⟩⟩;(try first|exact ⟨rfl,_,World.drewN_drewN _ _ _⟩|exact ⟨rfl,_,Eq.trans (World.drewN_drewN _ _ _) (congrArg (World.drewN _) (Nat.add_assoc _ _ _))⟩)))
           repeat (go_quiet (first|(go_at_call 188;(with_reducible refine (Qcb.calls k1 x4_1 (rd t423 x13_1) t427 _ A14.out).mono ?_);rintro e w' ⟨rfl,⟨nd,rfl⟩⟩;(try first|exact ⟨rfl,_,World.drewN_drewN _ _ _⟩|exact ⟨rfl,_,Eq.trans (World.drewN_drewN _ _ _) (congrArg (World.drewN _) (Nat.add_assoc _ _ _))⟩))|(go_at_call 188;(with_reducible refine (Qcb.calls k1 x4_1 (rd t423 x13_1) t428 _ A18.out).mono ?_);rintro e w' ⟨rfl,⟨nd,rfl⟩⟩;(try first|exact ⟨rfl,_,World.drewN_drewN _ _ _⟩|exact ⟨rfl,_,Eq.trans (World.drewN_drewN _ _ _) (congrArg (World.drewN _) (Nat.add_assoc _ _ _))⟩)));try go_wp2_with (first|(go_at_call 188;(with_reducible refine (Qcb.calls k1 x4_1 (rd t423 x13_1) t427 _ A14.out).mono ?_);rintro e w' ⟨rfl,⟨nd,rfl⟩⟩;(try first|exact ⟨rfl,_,World.drewN_drewN _ _ _⟩|exact ⟨rfl,_,Eq.trans (World.drewN_drewN _ _ _) (congrArg (World.drewN _) (Nat.add_assoc _ _ _))⟩))|(go_at_call 188;(with_reducible refine (Qcb.calls k1 x4_1 (rd t423 x13_1) t428 _ A18.out).mono ?_);rintro e w' ⟨rfl,⟨nd,rfl⟩⟩;(try first|exact ⟨rfl,_,World.drewN_drewN _ _ _⟩|exact ⟨rfl,_,Eq.trans (World.drewN_drewN _ _ _) (congrArg (World.drewN _) (Nat.add_assoc _ _ _))⟩))))
           go_roundg k1
           case measure=>have:=HK1.out;omega
           case rel=>exact ⟨(wrap64 ((wrap64 (Int.tdiv x4_1 t428))*(rd t423 x13_1))),(wrap64 (x13_1+1)),(by first|rfl|(rw [E_.out];done)|(simp;done)|(simp [*];done)),(by first|rfl|(simp;done)|(simp [*];done)),H',⟨by have:=HK1.out;omega⟩,⟨uR HO_11⟩,⟨uK BK421⟩,⟨(vB HB)⟩⟩
      ·
       rw [if_neg c13] at H;exact absurd H (by simp)
     ·
      rw [if_neg c12] at H;exact absurd H (by simp)
    ·
     rw [if_neg c11] at H;have c11b0:=decide_eq_false c11;clear c11;simp only [Option.some.injEq,Prod.mk.injEq] at H;obtain ⟨rfl,rfl⟩:=H;go_wp2
     repeat (go_quiet (fail);try go_wp2)
     go_ret2
     exact ⟨by first|rfl|(simp [Qf,Qg] <;>rfl)|(simp [*,Qf,Qg] <;>rfl),(vB HB)⟩
 ·
  replace c3:=Bool.eq_false_iff.mpr c3;subst c3;rw [if_neg (show ¬ (false=true) by decide)] at H;simp only [Option.some.injEq,Prod.mk.injEq] at H;obtain ⟨rfl,rfl⟩:=H;go_enter Tryz.func40,Tryz.ntmps40;go_wp2_with (first|(refine bE (N:=1) (cs:= #[.slice A0_0 l0_0.length c0_0]) (t:=26) ?_;intro gb421 hg w20 hbox hb;have BK421:=Aside0.mk (hbox);have GW421:=Aside0.mk ((by rw [hg];exact (Qd (uB HB)):w.heap.size≤gb421));have GE421:=GW421;replace HB:=Aside0.mk (Qc (uB HB) hb);clear hb hbox hg;have hcz21_0:=bC BK421;have hfz21_0:=Qe BK421.out 0)|(go_at_call 183;(with_reducible refine (Qn.calls k _ _ l0_0 false _ (uD HR0_0 HB) HC0_0.out A2.out).mono ?_);rintro e w22 ⟨rfl,hb⟩;replace BK421:=Aside0.mk (Qb (uK BK421) hb);replace HB:=Aside0.mk (Qc (vB HB) hb);(try clear hb)))
  repeat (go_quiet (first|(refine bE (N:=1) (cs:= #[.slice A0_0 l0_0.length c0_0]) (t:=26) ?_;intro gb421 hg w20 hbox hb;have BK421:=Aside0.mk (hbox);have GW421:=Aside0.mk ((by rw [hg];exact (Qd (uB HB)):w.heap.size≤gb421));have GE421:=GW421;replace HB:=Aside0.mk (Qc (uB HB) hb);clear hb hbox hg;have hcz21_0:=bC BK421;have hfz21_0:=Qe BK421.out 0)|(go_at_call 183;(with_reducible refine (Qn.calls k _ _ l0_0 false _ (uD HR0_0 HB) HC0_0.out A2.out).mono ?_);rintro e w22 ⟨rfl,hb⟩;replace BK421:=Aside0.mk (Qb (uK BK421) hb);replace HB:=Aside0.mk (Qc (vB HB) hb);(try clear hb)));try go_wp2_with (first|(refine bE (N:=1) (cs:= #[.slice A0_0 l0_0.length c0_0]) (t:=26) ?_;intro gb421 hg w20 hbox hb;have BK421:=Aside0.mk (hbox);have GW421:=Aside0.mk ((by rw [hg];exact (Qd (uB HB)):w.heap.size≤gb421));have GE421:=GW421;replace HB:=Aside0.mk (Qc (uB HB) hb);clear hb hbox hg;have hcz21_0:=bC BK421;have hfz21_0:=Qe BK421.out 0)|(go_at_call 183;(with_reducible refine (Qn.calls k _ _ l0_0 false _ (uD HR0_0 HB) HC0_0.out A2.out).mono ?_);rintro e w22 ⟨rfl,hb⟩;replace BK421:=Aside0.mk (Qb (uK BK421) hb);replace HB:=Aside0.mk (Qc (vB HB) hb);(try clear hb))))
  go_ret2
  exact ⟨by first|rfl|(simp [Qf,Qg] <;>rfl)|(simp [*,Qf,Qg] <;>rfl),(vB HB)⟩
def Qbu.l0 : Nat → List (List Int) → List (List Int) → Int → Int → Option (Bool)
 |0,_,_,_,_=>none
 |k+1,x0,x1,x12,x13=>if x13<x12 then (if 0≤x13 then (if x13<(x0.length:Int) then (if x13<(x1.length:Int) then ((Qbb.f k (Qu x0 x13) (Qu x1 x13)).bind fun t431=>(if t431=true then (Qbu.l0 k x0 x1 x12 (wrap64 (x13+1))) else (some false))) else (none)) else (none)) else (none)) else (some true)
def Qbu.f (k : Nat) (l0 : List (List Int)) (l1 : List (List Int)) : Option (Bool) := if (l0.length : Int) = (l1.length : Int) then (Qbu.l0 k l0 l1 (l0.length : Int) 0) else (some false)
theorem Qbu.mono_l : ∀ k, (∀ y0 y1 y2 y3, LeO (Qbu.l0 k y0 y1 y2 y3) (Qbu.l0 (k + 1) y0 y1 y2 y3))
 |0=>fun _ _ _ _ r h=>by simp [Qbu.l0] at h
 |k+1=>by
  have ih0:=Qbu.mono_l k
  ·
   intro y0 y1 y2 y3;unfold Qbu.l0
   repeat' first
   |(with_reducible exact ih0 _ _ _ _)
   |(with_reducible exact Qbb.mono _ _ _)
   |(with_reducible exact LeO.refl _)
   |(with_reducible exact LeO.none _)
   |(with_reducible refine LeO.ite ?_ ?_)
   |(with_reducible refine LeO.bind ?_ (fun _=> ?_))
   |exact ih0 _ _ _ _
   |exact Qbb.mono _ _ _
   |exact LeO.none _
   |refine LeO.ite ?_ ?_
   |refine LeO.bind ?_ (fun _=> ?_)
theorem Qbu.mono : ∀ a0 a1 k, LeO (Qbu.f k a0 a1) (Qbu.f (k + 1) a0 a1) := by
 intro a0 a1 k;have ih0:=Qbu.mono_l k;unfold Qbu.f
 repeat' (with_reducible first|apply ih0|apply Qbb.mono|exact LeO.refl _|exact LeO.none _|refine LeO.ite ?_ ?_|refine LeO.bind ?_ (fun _=> ?_))
set_option maxHeartbeats 8000000 in
set_option maxRecDepth 100000 in
theorem Qbu.calls (k : Nat) (A0 : Option Addr) (c0 : Nat) (l0 : List (List Int)) (A1 : Option Addr) (c1 : Nat) (l1 : List (List Int)) (r : Bool) (w : World) (hr0 : Kd.C (Kd.slice 3 (Kd.int .i64)) w A0 l0.length l0) (hc0 : l0.length ≤ c0) (hr1 : Kd.C (Kd.slice 3 (Kd.int .i64)) w A1 l1.length l1) (hc1 : l1.length ≤ c1) (h : Qbu.f k l0 l1 = some r) :
 Calls Tryz.prog 41 #[.slice A0 l0.length c0, .slice A1 l1.length c1] w fun e w'=>e= .returned (.bool r)∧Drawn0 w w':=by
 have HR0:=Aside0.mk hr0;have HC0:=Aside0.mk hc0;clear hr0 hc0;have HR1:=Aside0.mk hr1;have HC1:=Aside0.mk hc1;clear hr1 hc1;have H:(if (l0.length:Int)=(l1.length:Int) then (Qbu.l0 k l0 l1 (l0.length:Int) 0) else (some false))=some r:=h;clear h
 by_cases c3:(l0.length:Int)=(l1.length:Int)
 ·
  rw [if_pos c3] at H;have c3b0:((l0.length:Int)==(l1.length:Int))=true:=beq_iff_eq.mpr c3;have c3b1:((l0.length:Int) !=(l1.length:Int))=false:=bne_eq_false_iff_eq.mpr c3;have c3b2:(l0.length==l1.length)=true:=by first|simpa using c3|(simp at c3 ⊢;omega)
  clear c3;have H':=Aside0.mk H;clear H;go_enter Tryz.func41,Tryz.ntmps41;go_wp2
  repeat (go_quiet (fail);try go_wp2)
  go_loopg [13] k (fun kq v13 w'=> ∃ (x13_1:Int),v13= .int .i64 x13_1∧Aside0 (Qbu.l0 kq l0 l1 (l0.length:Int) x13_1=some r)∧Aside0 (kq≤k)∧Drawn0 w w')
  case atStart=>exact ⟨(0),(by first|rfl|(simp;done)|(simp [*];done)),H',⟨Nat.le_refl _⟩,by repeat (first|exact Drawn0.refl _|apply Drawn0.step)⟩
  case round=>
   clear H'
   try clear c3b0 c3b1 c3b2
   obtain ⟨x13_1,rfl,HA,HK1,⟨m1,rfl⟩⟩:=hrel;cases gk with
   |zero=>exact absurd HA.out (by simp [Qbu.l0])
   |succ k1=>
    have H:=HA.out;clear HA;simp only [Qbu.l0] at H
    by_cases c4:x13_1<(l0.length:Int)
    ·
     rw [if_pos c4] at H;have c4b0:=decide_eq_true c4;clear c4
     by_cases c5:0≤x13_1
     ·
      rw [if_pos c5] at H;have c5b0:=decide_eq_true c5;clear c5
      by_cases c6:x13_1<(l0.length:Int)
      ·
       rw [if_pos c6] at H;have c6b0:=decide_eq_true c6;clear c6
       by_cases c7:x13_1<(l1.length:Int)
       ·
        rw [if_pos c7] at H;have c7b0:=decide_eq_true c7;clear c7;obtain ⟨t431,A8,H⟩:=bs H;(try dsimp only at H)
        by_cases c9:t431=true
        ·
         subst c9;rw [if_pos rfl] at H;have H':=Aside0.mk H;clear H;have p429:0≤(x13_1:Int):=of_decide_eq_true (by first|(with_reducible assumption)|assumption);have q429:x13_1<(l0.length:Int):=of_decide_eq_true (by first|(with_reducible assumption)|assumption);obtain ⟨ad429,A429_0,c429_0,e429,hx429_0,hl429_0,hi429_0⟩:=Qfg HR0.out x13_1 p429 q429;cases e429;have HR429_0:=Aside0.mk hi429_0;have HC429_0:=Aside0.mk hl429_0;clear hi429_0 hl429_0;replace p429:=eq_true p429;replace q429:=eq_true q429;have p430:0≤(x13_1:Int):=of_decide_eq_true (by first|(with_reducible assumption)|assumption);have q430:x13_1<(l1.length:Int):=of_decide_eq_true (by first|(with_reducible assumption)|assumption);obtain ⟨ad430,A430_0,c430_0,e430,hx430_0,hl430_0,hi430_0⟩:=Qfg HR1.out x13_1 p430 q430;cases e430;have HR430_0:=Aside0.mk hi430_0;have HC430_0:=Aside0.mk hl430_0;clear hi430_0 hl430_0;replace p430:=eq_true p430;replace q430:=eq_true q430;go_wp2_with (first|(go_at_call 22;(with_reducible refine (Qbb.calls k1 _ _ (Qu l0 x13_1) _ _ (Qu l1 x13_1) true _ (uC HR429_0) HC429_0.out (uC HR430_0) HC430_0.out A8.out).mono ?_);rintro e w' ⟨rfl,⟨nd,rfl⟩⟩;(try first|exact ⟨rfl,_,World.drewN_drewN _ _ _⟩|exact ⟨rfl,_,Eq.trans (World.drewN_drewN _ _ _) (congrArg (World.drewN _) (Nat.add_assoc _ _ _))⟩)))
         repeat (go_quiet (first|(go_at_call 22;(with_reducible refine (Qbb.calls k1 _ _ (Qu l0 x13_1) _ _ (Qu l1 x13_1) true _ (uC HR429_0) HC429_0.out (uC HR430_0) HC430_0.out A8.out).mono ?_);rintro e w' ⟨rfl,⟨nd,rfl⟩⟩;(try first|exact ⟨rfl,_,World.drewN_drewN _ _ _⟩|exact ⟨rfl,_,Eq.trans (World.drewN_drewN _ _ _) (congrArg (World.drewN _) (Nat.add_assoc _ _ _))⟩)));try go_wp2_with (first|(go_at_call 22;(with_reducible refine (Qbb.calls k1 _ _ (Qu l0 x13_1) _ _ (Qu l1 x13_1) true _ (uC HR429_0) HC429_0.out (uC HR430_0) HC430_0.out A8.out).mono ?_);rintro e w' ⟨rfl,⟨nd,rfl⟩⟩;(try first|exact ⟨rfl,_,World.drewN_drewN _ _ _⟩|exact ⟨rfl,_,Eq.trans (World.drewN_drewN _ _ _) (congrArg (World.drewN _) (Nat.add_assoc _ _ _))⟩))))
         go_roundg k1
         case measure=>have:=HK1.out;omega
         case rel=>exact ⟨(wrap64 (x13_1+1)),(by first|rfl|(simp;done)|(simp [*];done)),H',⟨by have:=HK1.out;omega⟩,by repeat (first|exact Drawn0.refl _|apply Drawn0.step)⟩
        ·
         replace c9:=Bool.eq_false_iff.mpr c9;subst c9;rw [if_neg (show ¬ (false=true) by decide)] at H;obtain rfl:=Option.some.inj H;have p429:0≤(x13_1:Int):=of_decide_eq_true (by first|(with_reducible assumption)|assumption);have q429:x13_1<(l0.length:Int):=of_decide_eq_true (by first|(with_reducible assumption)|assumption);obtain ⟨ad429,A429_0,c429_0,e429,hx429_0,hl429_0,hi429_0⟩:=Qfg HR0.out x13_1 p429 q429;cases e429;have HR429_0:=Aside0.mk hi429_0;have HC429_0:=Aside0.mk hl429_0;clear hi429_0 hl429_0;replace p429:=eq_true p429;replace q429:=eq_true q429;have p430:0≤(x13_1:Int):=of_decide_eq_true (by first|(with_reducible assumption)|assumption);have q430:x13_1<(l1.length:Int):=of_decide_eq_true (by first|(with_reducible assumption)|assumption);obtain ⟨ad430,A430_0,c430_0,e430,hx430_0,hl430_0,hi430_0⟩:=Qfg HR1.out x13_1 p430 q430;cases e430;have HR430_0:=Aside0.mk hi430_0;have HC430_0:=Aside0.mk hl430_0;clear hi430_0 hl430_0;replace p430:=eq_true p430;replace q430:=eq_true q430;go_wp2_with (first|(go_at_call 22;(with_reducible refine (Qbb.calls k1 _ _ (Qu l0 x13_1) _ _ (Qu l1 x13_1) false _ (uC HR429_0) HC429_0.out (uC HR430_0) HC430_0.out A8.out).mono ?_);rintro e w' ⟨rfl,⟨nd,rfl⟩⟩;(try first|exact ⟨rfl,_,World.drewN_drewN _ _ _⟩|exact ⟨rfl,_,Eq.trans (World.drewN_drewN _ _ _) (congrArg (World.drewN _) (Nat.add_assoc _ _ _))⟩)))
         repeat (go_quiet (first|(go_at_call 22;(with_reducible refine (Qbb.calls k1 _ _ (Qu l0 x13_1) _ _ (Qu l1 x13_1) false _ (uC HR429_0) HC429_0.out (uC HR430_0) HC430_0.out A8.out).mono ?_);rintro e w' ⟨rfl,⟨nd,rfl⟩⟩;(try first|exact ⟨rfl,_,World.drewN_drewN _ _ _⟩|exact ⟨rfl,_,Eq.trans (World.drewN_drewN _ _ _) (congrArg (World.drewN _) (Nat.add_assoc _ _ _))⟩)));try go_wp2_with (first|(go_at_call 22;(with_reducible refine (Qbb.calls k1 _ _ (Qu l0 x13_1) _ _ (Qu l1 x13_1) false _ (uC HR429_0) HC429_0.out (uC HR430_0) HC430_0.out A8.out).mono ?_);rintro e w' ⟨rfl,⟨nd,rfl⟩⟩;(try first|exact ⟨rfl,_,World.drewN_drewN _ _ _⟩|exact ⟨rfl,_,Eq.trans (World.drewN_drewN _ _ _) (congrArg (World.drewN _) (Nat.add_assoc _ _ _))⟩))))
         go_ret
         exact ⟨by first|rfl|(simp;done)|(simp [*];done),by repeat (first|exact Drawn0.refl _|apply Drawn0.step)⟩
       ·
        rw [if_neg c7] at H;exact absurd H (by simp)
      ·
       rw [if_neg c6] at H;exact absurd H (by simp)
     ·
      rw [if_neg c5] at H;exact absurd H (by simp)
    ·
     rw [if_neg c4] at H;have c4b0:=decide_eq_false c4;clear c4;obtain rfl:=Option.some.inj H;go_wp2
     repeat (go_quiet (fail);try go_wp2)
     go_ret
     exact ⟨by first|rfl|(simp;done)|(simp [*];done),by repeat (first|exact Drawn0.refl _|apply Drawn0.step)⟩
 ·
  rw [if_neg c3] at H;have c3b0:((l0.length:Int)==(l1.length:Int))=false:=beq_eq_false_iff_ne.mpr c3;have c3b1:((l0.length:Int) !=(l1.length:Int))=true:=bne_iff_ne.mpr c3;have c3b2:(l0.length==l1.length)=false:=by first|simpa using c3|(simp at c3 ⊢;omega)
  obtain rfl:=Option.some.inj H;go_enter Tryz.func41,Tryz.ntmps41;go_wp2
  repeat (go_quiet (fail);try go_wp2)
  go_ret
  exact ⟨by first|rfl|(simp;done)|(simp [*];done),by repeat (first|exact Drawn0.refl _|apply Drawn0.step)⟩
def Qcy.f (k : Nat) (l0_0 : List Int) : Option (List Int × Bool) := (Qy.f k l0_0).bind fun t433 => (if t433 = true then ((Qbr.f k l0_0).bind fun t434 => (some (t434, true))) else (some (([] : List Int), false)))
theorem Qcy.mono : ∀ a0 k, LeO (Qcy.f k a0) (Qcy.f (k + 1) a0) := by
 intro a0 k;unfold Qcy.f
 repeat' (with_reducible first|apply Qy.mono|apply Qbr.mono|exact LeO.refl _|exact LeO.none _|refine LeO.ite ?_ ?_|refine LeO.bind ?_ (fun _=> ?_))
set_option maxHeartbeats 8000000 in
set_option maxRecDepth 100000 in
theorem Qcy.calls (k : Nat) (A0_0 : Option Addr) (c0_0 : Nat) (l0_0 : List Int) (r1 : List Int) (r2 : Bool) (w : World) (hr0_0 : Kd.C (Kd.int .i64) w A0_0 l0_0.length l0_0) (hc0_0 : l0_0.length ≤ c0_0) (h : Qcy.f k l0_0 = some (r1, r2)) :
 Calls Tryz.prog 49 #[.agg #[.slice A0_0 l0_0.length c0_0]] w fun e w'=> ∃ v0_:Value,e= .returned (.tuple #[v0_, .bool r2])∧Kd.R (Kd.int .i64) 3 w' w.heap.size (fun _=>True) v0_ r1∧Below w.heap.size w w':=by
 have hu26:=Tryz.underlying26;have HR0_0:=Aside0.mk hr0_0;have HC0_0:=Aside0.mk hc0_0;clear hr0_0 hc0_0;have HB:=Aside0.mk (Below.refl w.heap.size w);have H:((Qy.f k l0_0).bind fun t433=>(if t433=true then ((Qbr.f k l0_0).bind fun t434=>(some (t434,true))) else (some (([] :List Int),false))))=some (r1,r2):=h;clear h;obtain ⟨t433,A2,H⟩:=bs H;(try dsimp only at H)
 by_cases c3:t433=true
 ·
  subst c3;rw [if_pos rfl] at H;obtain ⟨t434,A4,H⟩:=bs H;(try dsimp only at H)
  simp only [Option.some.injEq,Prod.mk.injEq] at H;obtain ⟨rfl,rfl⟩:=H;go_enter Tryz.func49,Tryz.ntmps49;go_wp2_with (first|(refine bE (N:=1) (cs:= #[.slice A0_0 l0_0.length c0_0]) (t:=26) ?_;intro gb432 hg w5 hbox hb;have BK432:=Aside0.mk (hbox);have GW432:=Aside0.mk ((by rw [hg];exact (Qd (uB HB)):w.heap.size≤gb432));have GE432:=GW432;replace HB:=Aside0.mk (Qc (uB HB) hb);clear hb hbox hg;have hcz6_0:=bC BK432;have hfz6_0:=Qe BK432.out 0)|(refine gA (some 5) Tryz.func178 #[.agg #[.slice A0_0 l0_0.length c0_0]] ?_;(with_reducible refine (Qy.calls k _ _ l0_0 true _ (uD HR0_0 HB) HC0_0.out A2.out).mono ?_);rintro e w7 ⟨rfl,hb⟩;refine ⟨_,rfl,?_⟩;replace BK432:=Aside0.mk (Qb (uK BK432) hb);replace HB:=Aside0.mk (Qc (vB HB) hb);(try clear hb);have hcz8_0:=bC BK432;have hfz8_0:=Qe BK432.out 0)|(refine gA (some 8) Tryz.func169 #[.agg #[.slice A0_0 l0_0.length c0_0]] ?_;(with_reducible refine (Qbr.calls k _ _ l0_0 t434 _ (uD HR0_0 HB) HC0_0.out A4.out).mono ?_);rintro e w9 ⟨v435,rfl,ho0,hb⟩;refine ⟨_,rfl,?_⟩;have HO436:=Aside0.mk (Kd.R_lower ho0 (Qd (vB HB)));replace BK432:=Aside0.mk (Qb (uK BK432) hb);replace HB:=Aside0.mk (Qc (vB HB) hb);(try clear hb ho0)))
  go_ret2
  exact ⟨_,by first|rfl|(simp [Qf,Qg] <;>rfl)|(simp [*,Qf,Qg] <;>rfl),uR HO436,(vB HB)⟩
 ·
  replace c3:=Bool.eq_false_iff.mpr c3;subst c3;rw [if_neg (show ¬ (false=true) by decide)] at H;simp only [Option.some.injEq,Prod.mk.injEq] at H;obtain ⟨rfl,rfl⟩:=H;go_enter Tryz.func49,Tryz.ntmps49;go_wp2_with (first|(refine bE (N:=1) (cs:= #[.slice A0_0 l0_0.length c0_0]) (t:=26) ?_;intro gb432 hg w10 hbox hb;have BK432:=Aside0.mk (hbox);have GW432:=Aside0.mk ((by rw [hg];exact (Qd (uB HB)):w.heap.size≤gb432));have GE432:=GW432;replace HB:=Aside0.mk (Qc (uB HB) hb);clear hb hbox hg;have hcz11_0:=bC BK432;have hfz11_0:=Qe BK432.out 0)|(refine gA (some 5) Tryz.func178 #[.agg #[.slice A0_0 l0_0.length c0_0]] ?_;(with_reducible refine (Qy.calls k _ _ l0_0 false _ (uD HR0_0 HB) HC0_0.out A2.out).mono ?_);rintro e w12 ⟨rfl,hb⟩;refine ⟨_,rfl,?_⟩;replace BK432:=Aside0.mk (Qb (uK BK432) hb);replace HB:=Aside0.mk (Qc (vB HB) hb);(try clear hb)))
  go_ret2
  exact ⟨_,by first|rfl|(simp [Qf,Qg] <;>rfl)|(simp [*,Qf,Qg] <;>rfl),by first|exact Kd.R_nil _ _ _ _ _|exact Kd.N_nil _ _ _ _ _|exact Kd.V_nil _ _ _ _ _|exact Kd.Q_nil _ _ _ _ _|exact Kd.S_nil _ _ _ _ _,(vB HB)⟩
def Qc3.f (k : Nat) (l0_0 : List Int) : Option (Int × Bool) := (Qcy.f k l0_0).bind fun bt438 => (some ((bt438.1.length : Int), bt438.2))
theorem Qc3.mono : ∀ a0 k, LeO (Qc3.f k a0) (Qc3.f (k + 1) a0) := by
 intro a0 k;unfold Qc3.f
 repeat' (with_reducible first|apply Qcy.mono|exact LeO.refl _|exact LeO.none _|refine LeO.ite ?_ ?_|refine LeO.bind ?_ (fun _=> ?_))
set_option maxHeartbeats 8000000 in
set_option maxRecDepth 100000 in
theorem Qc3.calls (k : Nat) (A0_0 : Option Addr) (c0_0 : Nat) (l0_0 : List Int) (r1 : Int) (r2 : Bool) (w : World) (hr0_0 : Kd.C (Kd.int .i64) w A0_0 l0_0.length l0_0) (hc0_0 : l0_0.length ≤ c0_0) (h : Qc3.f k l0_0 = some (r1, r2)) :
 Calls Tryz.prog 42 #[.agg #[.slice A0_0 l0_0.length c0_0]] w fun e w'=>e= .returned (.tuple #[.int .i64 r1, .bool r2])∧Below w.heap.size w w':=by
 have hu26:=Tryz.underlying26;have HR0_0:=Aside0.mk hr0_0;have HC0_0:=Aside0.mk hc0_0;clear hr0_0 hc0_0;have HB:=Aside0.mk (Below.refl w.heap.size w);have H:((Qcy.f k l0_0).bind fun bt438=>(some ((bt438.1.length:Int),bt438.2)))=some (r1,r2):=h;clear h;obtain ⟨⟨t438,t441⟩,A2,H⟩:=bs H;(try dsimp only at H)
 simp only [Option.some.injEq,Prod.mk.injEq] at H;obtain ⟨rfl,rfl⟩:=H;go_enter Tryz.func42,Tryz.ntmps42;go_wp2_with (first|(refine bE (N:=1) (cs:= #[.slice A0_0 l0_0.length c0_0]) (t:=26) ?_;intro gb437 hg w3 hbox hb;have BK437:=Aside0.mk (hbox);have GW437:=Aside0.mk ((by rw [hg];exact (Qd (uB HB)):w.heap.size≤gb437));have GE437:=GW437;replace HB:=Aside0.mk (Qc (uB HB) hb);clear hb hbox hg;have hcz4_0:=bC BK437;have hfz4_0:=Qe BK437.out 0)|(refine gA (some 8) Tryz.func49 #[.agg #[.slice A0_0 l0_0.length c0_0]] ?_;(with_reducible refine (Qcy.calls k _ _ l0_0 t438 t441 _ (uD HR0_0 HB) HC0_0.out A2.out).mono ?_);rintro e w5 ⟨v439,rfl,ho0,hb⟩;refine ⟨_,rfl,?_⟩;have HO440:=Aside0.mk (Kd.R_lower ho0 (Qd (vB HB)));replace BK437:=Aside0.mk (Qb (uK BK437) hb);replace HB:=Aside0.mk (Qc (vB HB) hb);(try clear hb ho0);obtain ⟨Ao6,co6,eo6⟩:=Kd.R_slice HO440.out;subst eo6))
 go_ret2
 exact ⟨by first|rfl|(simp [Qf,Qg] <;>rfl)|(simp [*,Qf,Qg] <;>rfl),(vB HB)⟩
end Go.Proofs.YtkgngggppcmpfaaGreat.L
end
section
namespace Go.Proofs.YtkgngggppcmpfaaGreat.L
open Go.RowKit Go.Proofs.YtkgngggppcmpfaaGreatW.PrintWords Go.Proofs.YtkgngggppcmpfaaGreatW.PrintLast Go.Proofs.YtkgngggppcmpfaaGreatW.PrintMore
attribute [local go_sem] Q2 Q4 Qbd Qbe Qz Q0 Q3 Q5
set_option linter.unusedVariables false
set_option linter.unusedSimpArgs false
def Qci.l0 : Nat → Int → List Int → Int → Int → Option (Int)
 |0,_,_,_,_=>none
 |k+1,x3,x6,x7,x8=>if x8<x7 then (if 0≤x8 then (if x8<(x6.length:Int) then (Qci.l0 k (wrap64 (x3+(rd x6 x8))) x6 x7 (wrap64 (x8+1))) else (none)) else (none)) else (some x3)
def Qci.f (k : Nat) (l0 : List Int) : Option (Int) := Qci.l0 k 0 l0 (l0.length : Int) 0
theorem Qci.mono_l : ∀ k, (∀ y0 y1 y2 y3, LeO (Qci.l0 k y0 y1 y2 y3) (Qci.l0 (k + 1) y0 y1 y2 y3))
 |0=>fun _ _ _ _ r h=>by simp [Qci.l0] at h
 |k+1=>by
  have ih0:=Qci.mono_l k
  ·
   intro y0 y1 y2 y3;unfold Qci.l0
   repeat' first
   |(with_reducible exact ih0 _ _ _ _)
   |(with_reducible exact LeO.refl _)
   |(with_reducible exact LeO.none _)
   |(with_reducible refine LeO.ite ?_ ?_)
   |(with_reducible refine LeO.bind ?_ (fun _=> ?_))
   |exact ih0 _ _ _ _
   |exact LeO.none _
   |refine LeO.ite ?_ ?_
   |refine LeO.bind ?_ (fun _=> ?_)
theorem Qci.mono : ∀ a0 k, LeO (Qci.f k a0) (Qci.f (k + 1) a0) := by
 intro a0 k;have ih0:=Qci.mono_l k;unfold Qci.f
 repeat' (with_reducible first|apply ih0|exact LeO.refl _|exact LeO.none _|refine LeO.ite ?_ ?_|refine LeO.bind ?_ (fun _=> ?_))
set_option maxHeartbeats 8000000 in
set_option maxRecDepth 100000 in
theorem Qci.calls (k : Nat) (A0 : Option Addr) (c0 : Nat) (l0 : List Int) (r : Int) (w : World) (hr0 : Kd.C (Kd.int .i64) w A0 l0.length l0) (hc0 : l0.length ≤ c0) (h : Qci.f k l0 = some r) :
 Calls Tryz.prog 43 #[.slice A0 l0.length c0] w fun e w'=>e= .returned (.int .i64 r)∧Drawn0 w w':=by
 have HR0:=Aside0.mk hr0;have HC0:=Aside0.mk hc0;clear hr0 hc0;have H:(Qci.l0 k 0 l0 (l0.length:Int) 0)=some r:=h;clear h;have H':=Aside0.mk H;clear H;go_enter Tryz.func43,Tryz.ntmps43;go_wp2
 go_loopg [3,8] k (fun kq v3 v8 w'=> ∃ (x3_1:Int) (x8_1:Int),v3= .int .i64 x3_1∧v8= .int .i64 x8_1∧Aside0 (Qci.l0 kq x3_1 l0 (l0.length:Int) x8_1=some r)∧Aside0 (kq≤k)∧Drawn0 w w')
 case atStart=>exact ⟨(0),(0),(by first|rfl|(simp;done)|(simp [*];done)),(by first|rfl|(simp;done)|(simp [*];done)),H',⟨Nat.le_refl _⟩,by repeat (first|exact Drawn0.refl _|apply Drawn0.step)⟩
 case round=>
  clear H';obtain ⟨x3_1,x8_1,rfl,rfl,HA,HK1,⟨m1,rfl⟩⟩:=hrel;cases gk with
  |zero=>exact absurd HA.out (by simp [Qci.l0])
  |succ k1=>
   have H:=HA.out;clear HA;simp only [Qci.l0] at H
   by_cases c2:x8_1<(l0.length:Int)
   ·
    rw [if_pos c2] at H;have c2b0:=decide_eq_true c2;clear c2
    by_cases c3:0≤x8_1
    ·
     rw [if_pos c3] at H;have c3b0:=decide_eq_true c3;clear c3
     by_cases c4:x8_1<(l0.length:Int)
     ·
      rw [if_pos c4] at H;have c4b0:=decide_eq_true c4;clear c4;have H':=Aside0.mk H;clear H;have p442:0≤(x8_1:Int):=of_decide_eq_true (by first|(with_reducible assumption)|assumption);have q442:x8_1<(l0.length:Int):=of_decide_eq_true (by first|(with_reducible assumption)|assumption);obtain ⟨ad442,e442,hx442_0⟩:=Kd.at_int HR0.out x8_1 p442 q442;cases e442;replace p442:=eq_true p442;replace q442:=eq_true q442;go_wp2;go_roundg k1
      case measure=>have:=HK1.out;omega
      case rel=>exact ⟨(wrap64 (x3_1+(rd l0 x8_1))),(wrap64 (x8_1+1)),(by first|rfl|(simp;done)|(simp [*];done)),(by first|rfl|(simp;done)|(simp [*];done)),H',⟨by have:=HK1.out;omega⟩,by repeat (first|exact Drawn0.refl _|apply Drawn0.step)⟩
     ·
      rw [if_neg c4] at H;exact absurd H (by simp)
    ·
     rw [if_neg c3] at H;exact absurd H (by simp)
   ·
    rw [if_neg c2] at H;have c2b0:=decide_eq_false c2;clear c2;obtain rfl:=Option.some.inj H;go_wp2
    go_ret
    exact ⟨by first|rfl|(simp;done)|(simp [*];done),by repeat (first|exact Drawn0.refl _|apply Drawn0.step)⟩
def Qd5.f (l0 : List Int) : Option (List Int) := if l0.length < 17592186044416 then some l0 else none
set_option maxHeartbeats 800000 in
set_option maxRecDepth 100000 in
theorem Qd5.calls (A0 : Option Addr) (c0 : Nat) (l0 : List Int) (r : List Int) (w : World) (hr0 : Kd.C (Kd.int .i64) w A0 l0.length l0) (hc0 : l0.length ≤ c0) (h : Qd5.f l0 = some r) :
 Calls Tryz.prog 295 #[.slice A0 l0.length c0] w fun e w'=> ∃ v0_:Value,e= .returned (v0_)∧Kd.R (Kd.int .i64) 3 w' w.heap.size (fun _=>True) v0_ r∧Below w.heap.size w w':=by
 unfold Qd5.f at h
 split at h
 ·
  rename_i hl;obtain rfl:=Option.some.inj h;clear h;have HL:=Aside0.mk hl;have HR0:=Aside0.mk hr0;clear hl hr0 hc0;cases A0 with
  |none=>
   have hn:l0= [] :=by
    apply Classical.byContradiction;intro hne;obtain ⟨_,e,_⟩:=HR0.out.2.2 (List.length_pos_iff.mpr hne);cases e
   subst hn;have hs:=Lib.run_eql_slice_nil (P:=Tryz.prog) w 24 3 none 0 c0 0 0 Tryz.underlying24;go_enter Tryz.func295,Tryz.ntmps295;go_wp2
   go_ret
   exact ⟨_,rfl,Kd.R_nil _ _ _ _ _,Below.refl _ _⟩
  |some a=>
   have hs:=Lib.run_eql_slice_nil (P:=Tryz.prog) w 24 3 (some a) l0.length c0 0 0 Tryz.underlying24;go_enter Tryz.func295,Tryz.ntmps295;go_wp2_with (first|((with_reducible refine Qbl (N:=5) rfl ?_);refine Kd.R_lit (Kd.int .i64) _ 3 ?hg (N:=5) ?hd (xs:=([] :List Int)) (inner:= []) (ok:=fun _=>True) (okp:=fun _=>True) ?hr ?hp (fun _ hk=>hk) trivial (Below.refl _ _) (Nat.le_refl _) (by simp) ?_;(case hd=>rfl);(case hg=>rfl);(case hr=>first|(go_simp;done)|(go_simp;rfl));(case hp=>exact (Reps.none _ _));intro v109 w3 ho4 hb hg_ hnew_;clear hg_ hnew_;have HB:=Aside0.mk hb;have HO:=Aside0.mk ho4;clear hb ho4)|((with_reducible refine Qb5 (b:= .append) (xs:= #[.tmp 5, .tmp 6]) rfl ?_);at_builtin;refine Kd.R_append_rows (Kd.int .i64) (w0:=w) w.heap.size rfl (.tmp 5) (.tmp 6) 24 3 (.int .i64 0) 8 rfl Tryz.underlying24 Qdv rfl (by decide) (by omega) v109 [] l0 _ _ _ (fun _=>True) (fun _=>False) rfl rfl ?aO ?aR (fun _ _ h=>h) (fun _ h=>h.elim) ?aF ?aB ?aS ?aL ?_;(case aR=>exact (Kd.C_below HR0.out HB.out));(case aB=>exact HB.out);(case aF=>exact (fun _ _=>trivial));(case aO=>exact HO.out);(case aS=>exact HB.out.size);(case aL=>have:=HL.out;simp;omega);intro v112 w5 ho hb hg hat;have HB2:=Aside0.mk hb;have HO2:=Aside0.mk ho;clear ho hb hg hat))
   go_ret
   exact ⟨_,rfl,by simpa using HO2.out,HB2.out⟩
 ·
  exact absurd h (by simp)
def Qdh.ren : Go.Shelf.Ren := ⟨fun | 5 => 296 | 8 => 338 | 7 => 337 | 19 => 361 | 20 => 362 | 10 => 352 | 11 => 353 | 12 => 354 | 13 => 355 | 14 => 356 | 15 => 357 | 16 => 358 | 17 => 359 | 18 => 360 | 30 => 364 | 31 => 365 | 32 => 366 | 33 => 367 | 34 => 368 | 35 => 369 | 40 => 370 | n => n, fun | 23 => 24 | 25 => 3 | 3 => 3 | 32 => 149 | 22 => 24 | 0 => 0 | 44 => 163 | 46 => 92 | 4 => 4 | 36 => 172 | 35 => 171 | 41 => 29 | 5 => 5 | 9 => 9 | 53 => 176 | 57 => 180 | 63 => 182 | 64 => 49 | n => n, fun | n => n⟩
theorem Qdh.lays : Go.Proofs.SlLaysM.n5 Tryz.prog Qdh.ren where
 mixed:=by kernel_rfl
 f5 := ⟨ "slices.Sort[[]int,int]", by decide, Tryz.func296.trans (congrArg some (by kernel_rfl))⟩
 f7 := ⟨ "slices.pdqsortOrdered[int]", by decide, Tryz.func337.trans (congrArg some (by kernel_rfl))⟩
 f8:=Tryz.func338.trans (congrArg some (by kernel_rfl))
 f10 := ⟨ "slices.insertionSortOrdered[int]", by decide, Tryz.func352.trans (congrArg some (by kernel_rfl))⟩
 f11 := ⟨ "slices.heapSortOrdered[int]", by decide, Tryz.func353.trans (congrArg some (by kernel_rfl))⟩
 f12 := ⟨ "slices.breakPatternsOrdered[int]", by decide, Tryz.func354.trans (congrArg some (by kernel_rfl))⟩
 f13 := ⟨ "slices.choosePivotOrdered[int]", by decide, Tryz.func355.trans (congrArg some (by kernel_rfl))⟩
 f14 := ⟨ "slices.reverseRangeOrdered[int]", by decide, Tryz.func356.trans (congrArg some (by kernel_rfl))⟩
 f15 := ⟨ "slices.partialInsertionSortOrdered[int]", by decide, Tryz.func357.trans (congrArg some (by kernel_rfl))⟩
 f16 := ⟨ "cmp.Less[int]", by decide, Tryz.func358.trans (congrArg some (by kernel_rfl))⟩
 f17 := ⟨ "slices.partitionEqualOrdered[int]", by decide, Tryz.func359.trans (congrArg some (by kernel_rfl))⟩
 f18 := ⟨ "slices.partitionOrdered[int]", by decide, Tryz.func360.trans (congrArg some (by kernel_rfl))⟩
 f19:=Tryz.func361.trans (congrArg some (by kernel_rfl))
 f20:=Tryz.func362.trans (congrArg some (by kernel_rfl))
 f30 := ⟨ "slices.siftDownOrdered[int]", by decide, Tryz.func364.trans (congrArg some (by kernel_rfl))⟩
 f31:=Tryz.func365.trans (congrArg some (by kernel_rfl))
 f32:=Tryz.func366.trans (congrArg some (by kernel_rfl))
 f33 := ⟨ "slices.medianAdjacentOrdered[int]", by decide, Tryz.func367.trans (congrArg some (by kernel_rfl))⟩
 f34 := ⟨ "slices.medianOrdered[int]", by decide, Tryz.func368.trans (congrArg some (by kernel_rfl))⟩
 f35 := ⟨ "cmp.isNaN[int]", by decide, Tryz.func369.trans (congrArg some (by kernel_rfl))⟩
 f40 := ⟨ "slices.order2Ordered[int]", by decide, Tryz.func370.trans (congrArg some (by kernel_rfl))⟩
 t0:=Tryz.underlying0
 a0:=Tryz.isAgg0
 z0:=Tryz.sizeOf0
 v0:=Tryz.zeroValue0
 t3:=Tryz.underlying3
 a3:=Tryz.isAgg3
 z3:=Tryz.sizeOf3
 v3:=Tryz.zeroValue3
 t4:=Tryz.underlying4
 a4:=Tryz.isAgg4
 z4:=Tryz.sizeOf4
 v4:=Tryz.zeroValue4
 t5:=Tryz.underlying5
 a5:=Tryz.isAgg5
 z5:=Tryz.sizeOf5
 v5:=Tryz.zeroValue5
 t9:=Tryz.underlying9
 a9:=Tryz.isAgg9
 z9:=Tryz.sizeOf9
 v9:=Tryz.zeroValue9
 t22:=Tryz.underlying24
 a22:=Tryz.isAgg24
 z22:=Tryz.sizeOf24
 v22:=Tryz.zeroValue24
 t23:=Tryz.underlying24
 a23:=Tryz.isAgg24
 z23:=Tryz.sizeOf24
 v23:=Tryz.zeroValue24
 t25:=Tryz.underlying3
 a25:=Tryz.isAgg3
 z25:=Tryz.sizeOf3
 v25:=Tryz.zeroValue3
 t32:=Tryz.underlying149
 a32:=Tryz.isAgg149
 z32:=Tryz.sizeOf149
 v32:=Tryz.zeroValue149
 t35:=Tryz.underlying171
 a35:=Tryz.isAgg171
 z35:=Tryz.sizeOf171
 v35:=Tryz.zeroValue171
 t36:=Tryz.underlying172
 a36:=Tryz.isAgg172
 z36:=Tryz.sizeOf172
 v36:=Tryz.zeroValue172
 t41:=Tryz.underlying29
 a41:=Tryz.isAgg29
 z41:=Tryz.sizeOf29
 v41:=Tryz.zeroValue29
 t44:=Tryz.underlying163
 a44:=Tryz.isAgg163
 z44:=Tryz.sizeOf163
 v44:=Tryz.zeroValue163
 t46:=Tryz.underlying92
 a46:=Tryz.isAgg92
 z46:=Tryz.sizeOf92
 v46:=Tryz.zeroValue92
 t53:=Tryz.underlying176
 a53:=Tryz.isAgg176
 z53:=Tryz.sizeOf176
 v53:=Tryz.zeroValue176
 t57:=Tryz.underlying180
 a57:=Tryz.isAgg180
 z57:=Tryz.sizeOf180
 v57:=Tryz.zeroValue180
 t63:=Tryz.underlying182
 a63:=Tryz.isAgg182
 z63:=Tryz.sizeOf182
 v63:=Tryz.zeroValue182
 t64:=Tryz.underlying49
 a64:=Tryz.isAgg49
 z64:=Tryz.sizeOf49
 v64:=Tryz.zeroValue49
theorem Qdh.heap {w : World} {g e : Nat} {cur : Array Value} (h : w.heap[g]? = some (.cells cur e (0, 0))) (f : Array Value → Array Value) : (Go.Sort.mapBlock w g f).heap[g]? = some (.cells (f cur) e (0, 0)) := by
 unfold Go.Sort.mapBlock;show (w.heap.modify g (Go.Sort.onCells f))[g]? =_
 rw [Array.getElem?_modify,if_pos rfl,h];rfl
theorem Qdh.far {w : World} {g k : Nat} (hk : k ≠ g) (f : Array Value → Array Value) : (Go.Sort.mapBlock w g f).heap[k]? = w.heap[k]? := by
 unfold Go.Sort.mapBlock;show (w.heap.modify g (Go.Sort.onCells f))[k]? =_
 rw [Array.getElem?_modify,if_neg (fun e=>hk e.symm)]
theorem Qdh.hold {g n c base e : Nat} {ok : Nat → Prop} {w : World} {xs : List Int} (h : (Kd.int .i64).R e w base ok (.slice (some ⟨g, 0, none⟩) n c) xs) : Go.Sort.Holds (Value.int .i64) w g 0 xs.toArray := by
 obtain ⟨hn,_,_⟩:=Kd.R_reads' h;subst hn;intro j hj;have hj':j<xs.length:=by simpa using hj
 obtain ⟨h1,h2⟩:=Kd.R_celln (0:Int) h (j:Int) (by omega) (by omega);rw [Int.toNat_natCast] at h1 h2;rw [Nat.zero_add];refine ⟨?_,h2⟩;rw [h1];simp [rdOf,List.getD_eq_getElem?_getD,hj']
theorem Qdh.put {g n c base e : Nat} {ok : Nat → Prop} {w : World} {xs zs : List Int} (h : (Kd.int .i64).R e w base ok (.slice (some ⟨g, 0, none⟩) n c) xs) (hz : zs.length = xs.length) :
 (Kd.int .i64).R e (Go.Sort.putRow (Value.int .i64) w g 0 zs.toArray) base ok (.slice (some ⟨g,0,none⟩) n c) zs:=by
 obtain ⟨hn,_,_⟩:=Kd.R_reads' h;subst hn;have ho:=Kd.own_of_R h;obtain ⟨hl,hor⟩:=ho;rcases hor with ⟨e1,_⟩|⟨g',cap,cur,e1,hb,hh,hnc,hcm,hcs,ht⟩
 ·
  cases e1
 ·
  injection e1 with e2 e3 e4
  injection e2 with e2
  injection e2 with e2
  subst e2 e4;have hown:(Go.Sort.putRow (Value.int .i64) w g 0 zs.toArray).ownsRow base e 1 (.slice (some ⟨g,0,none⟩) xs.length c) zs.length (encs (Value.int .i64) zs):=by
   rw [hz];refine ⟨by rw [Qfu];omega, .inr ⟨g,c,Go.Sort.putCells (Value.int .i64) 0 zs.toArray cur,rfl,hb,Qdh.heap hh _,hnc,hcm,?_,?_⟩⟩
   ·
    unfold Go.Sort.putCells;rw [Array.size_mapIdx];exact hcs
   ·
    refine List.ext_getElem? fun j=> ?_
    rw [List.getElem?_take]
    by_cases hj:j<xs.length*1
    ·
     rw [if_pos hj];have hjc:j<cur.size:=by omega
     have hjz:j<zs.length:=by omega
     unfold Go.Sort.putCells encs;rw [Array.getElem?_toList,Array.getElem?_mapIdx,Array.getElem?_eq_getElem hjc,List.getElem?_map,List.getElem?_eq_getElem hjz];simp [hjz]
    ·
     rw [if_neg hj,List.getElem?_eq_none (by rw [Qfu];omega)]
  rw [hz] at hown;rw [←hz] at hown ⊢;exact Kd.R_of_own hown h.1
theorem Qdh.grown {d : Kd Int} {base e : Nat} {ok : Nat → Prop} {v : Value} {w : World} {xs : List Int} (h : d.R e w base ok v xs) (os : Array Obj) : d.R e (Go.Sort.grow w os) base ok v xs := by
 refine Kd.R_step h fun k _ hk=> ?_
 unfold Go.Sort.grow;show (w.heap++os)[k]? =_
 rw [Array.getElem?_append_left hk]
theorem Qdh.below {B g n : Nat} {w0 w : World} (h : Below B w0 w) (hg : B ≤ g) (hB : B ≤ w.heap.size) (d : Array Int) (os : Array Obj) : Below B w0 (Go.Sort.grow (Go.Sort.putRow (Value.int .i64) (Go.Sort.ahead w n) g 0 d) os) := by
 refine ⟨h.os,h.tape,h.output,?_,fun k hk=> ?_⟩
 ·
  refine Nat.le_trans h.size ?_;show _≤((w.heap.modify g _)++os).size
  rw [Array.size_append,Array.size_modify];omega
 ·
  rw [←h.block k hk];show ((w.heap.modify g (Go.Sort.onCells _))++os)[k]? =_
  rw [Array.getElem?_append_left (by rw [Array.size_modify];omega),Array.getElem?_modify,if_neg (by omega)]
def Qcz.sort (l : List Int) : List Int := l.mergeSort fun x y => decide (x ≤ y)
set_option maxHeartbeats 800000 in
set_option maxRecDepth 100000 in
theorem Qdh.calls (v : Value) (l : List Int) (w0 w : World) (hb : Below w0.heap.size w0 w) (hr : Kd.R (Kd.int .i64) 3 w w0.heap.size (fun _ => True) v l) (hl : l.length ≤ 17592186044416) :
 Calls Tryz.prog 296 #[v] w fun e w'=>e= .returned (.tuple #[])∧Kd.R (Kd.int .i64) 3 w' w0.heap.size (fun _=>True) v (Qcz.sort l)∧Below w0.heap.size w0 w':=by
 cases l with
 |nil=>
  obtain ⟨A,c,rfl,_,_⟩:=Kd.R_reads hr;refine (Go.Proofs.AnyM.slices_Sort_int_none Qdh.lays A c w).mono ?_;rintro e w' ⟨rfl,rfl⟩;have e1:Qcz.sort [] = [] :=by unfold Qcz.sort;simp
  rw [e1];exact ⟨rfl,hr,hb⟩
 |cons x l=>
  obtain ⟨g,c,rfl,gb,gl,cl,hg⟩:=Kd.R_form hr (by simp);refine (Go.Proofs.AnyM.slices_Sort_int Qdh.lays g 0 c (x::l) w (Qdh.hold hr) gl (by omega)).mono ?_;rintro e w' ⟨rfl,n,os,rfl⟩;have h1:Kd.R (Kd.int .i64) 3 (Go.Sort.ahead w n) w0.heap.size (fun _=>True) (.slice (some ⟨g,0,none⟩) (x::l).length c) (x::l):=Kd.R_step hr fun _ _ _=>rfl
  exact ⟨rfl,Qdh.grown (Qdh.put h1 (by rw [List.length_mergeSort])) os,Qdh.below hb gb hb.size _ os⟩
def Qcz.f (l0 : List Int) : Option (List Int) := if l0.length < 17592186044416 then some (Qcz.sort l0) else none
set_option maxHeartbeats 800000 in
set_option maxRecDepth 100000 in
theorem Qcz.calls (A0 : Option Addr) (c0 : Nat) (l0 : List Int) (r : List Int) (w : World) (hr0 : Kd.C (Kd.int .i64) w A0 l0.length l0) (hc0 : l0.length ≤ c0) (h : Qcz.f l0 = some r) :
 Calls Tryz.prog 189 #[.slice A0 l0.length c0] w fun e w'=> ∃ v0_:Value,e= .returned (v0_)∧Kd.R (Kd.int .i64) 3 w' w.heap.size (fun _=>True) v0_ r∧Below w.heap.size w w':=by
 unfold Qcz.f at h
 split at h
 ·
  rename_i hl;obtain rfl:=Option.some.inj h;have HL:=Aside0.mk hl;have HR:=Aside0.mk hr0;have HC:=Aside0.mk hc0;have HF:=Aside0.mk (show Qd5.f l0=some l0 from if_pos hl);clear h hl hr0 hc0;go_enter Tryz.func189,Tryz.ntmps189;go_wp2_with fail;refine (Qd5.calls A0 c0 l0 l0 _ HR.out HC.out HF.out).mono ?_;rintro e w1 ⟨v1,rfl,hR,hb⟩;have R1:=Aside0.mk hR;have B1:=Aside0.mk hb;clear hR hb;go_wp2_with fail;refine (Qdh.calls v1 l0 w _ B1.out R1.out (by have:=HL.out;omega)).mono ?_;rintro e w2 ⟨rfl,hR,hb⟩;have R2:=Aside0.mk hR;have B2:=Aside0.mk hb;clear hR hb;go_wp2
  go_ret
  exact ⟨_,rfl,R2.out,B2.out⟩
 ·
  cases h
end Go.Proofs.YtkgngggppcmpfaaGreat.L
end
section
namespace Go.Proofs.YtkgngggppcmpfaaGreat.L
open Go.RowKit Go.Proofs.YtkgngggppcmpfaaGreatW.PrintWords Go.Proofs.YtkgngggppcmpfaaGreatW.PrintLast Go.Proofs.YtkgngggppcmpfaaGreatW.PrintMore Go.Proofs.YtkgngggppcmpfaaGreat.X
attribute [local go_sem] Q2 Q4 Qbd Qbe Qz Q0 Q3 Q5
set_option linter.unusedVariables false
set_option linter.unusedSimpArgs false
def Qb3.f (k : Nat) (l0_0 : List Int) : Option (List Int × Bool) := (Qy.f k l0_0).bind fun t563 => (if t563 = true then ((Qbm.f k l0_0).bind fun t564 => ((Qba.f k t564).bind fun t567 => ((Qcz.f t567).bind fun t570 => (some (t570, true))))) else (some (([] : List Int), false)))
theorem Qb3.mono : ∀ a0 k, LeO (Qb3.f k a0) (Qb3.f (k + 1) a0) := by
 intro a0 k;unfold Qb3.f
 repeat' (with_reducible first|apply Qy.mono|apply Qbm.mono|apply Qba.mono|exact LeO.refl _|exact LeO.none _|refine LeO.ite ?_ ?_|refine LeO.bind ?_ (fun _=> ?_))
set_option maxHeartbeats 8000000 in
set_option maxRecDepth 100000 in
theorem Qb3.calls (k : Nat) (A0_0 : Option Addr) (c0_0 : Nat) (l0_0 : List Int) (r1 : List Int) (r2 : Bool) (w : World) (hr0_0 : Kd.C (Kd.int .i64) w A0_0 l0_0.length l0_0) (hc0_0 : l0_0.length ≤ c0_0) (h : Qb3.f k l0_0 = some (r1, r2)) :
 Calls Tryz.prog 44 #[.agg #[.slice A0_0 l0_0.length c0_0]] w fun e w'=> ∃ v0_:Value,e= .returned (.tuple #[v0_, .bool r2])∧Kd.R (Kd.int .i64) 3 w' w.heap.size (fun _=>True) v0_ r1∧Below w.heap.size w w':=by
 have hu26:=Tryz.underlying26;have HR0_0:=Aside0.mk hr0_0;have HC0_0:=Aside0.mk hc0_0;clear hr0_0 hc0_0;have HB:=Aside0.mk (Below.refl w.heap.size w);have H:((Qy.f k l0_0).bind fun t563=>(if t563=true then ((Qbm.f k l0_0).bind fun t564=>((Qba.f k t564).bind fun t567=>((Qcz.f t567).bind fun t570=>(some (t570,true))))) else (some (([] :List Int),false))))=some (r1,r2):=h;clear h;obtain ⟨t563,A2,H⟩:=bs H;(try dsimp only at H)
 by_cases c3:t563=true
 ·
  subst c3;rw [if_pos rfl] at H;obtain ⟨t564,A4,H⟩:=bs H;(try dsimp only at H)
  obtain ⟨t567,A5,H⟩:=bs H;(try dsimp only at H)
  obtain ⟨t570,A6,H⟩:=bs H;(try dsimp only at H)
  simp only [Option.some.injEq,Prod.mk.injEq] at H;obtain ⟨rfl,rfl⟩:=H;go_enter Tryz.func44,Tryz.ntmps44;go_wp2_with (first|(refine bE (N:=1) (cs:= #[.slice A0_0 l0_0.length c0_0]) (t:=26) ?_;intro gb562 hg w7 hbox hb;have BK562:=Aside0.mk (hbox);have GW562:=Aside0.mk ((by rw [hg];exact (Qd (uB HB)):w.heap.size≤gb562));have GE562:=GW562;replace HB:=Aside0.mk (Qc (uB HB) hb);clear hb hbox hg;have hcz8_0:=bC BK562;have hfz8_0:=Qe BK562.out 0)|(refine gA (some 5) Tryz.func178 #[.agg #[.slice A0_0 l0_0.length c0_0]] ?_;(with_reducible refine (Qy.calls k _ _ l0_0 true _ (uD HR0_0 HB) HC0_0.out A2.out).mono ?_);rintro e w9 ⟨rfl,hb⟩;refine ⟨_,rfl,?_⟩;replace BK562:=Aside0.mk (Qb (uK BK562) hb);replace HB:=Aside0.mk (Qc (vB HB) hb);(try clear hb);have hcz10_0:=bC BK562;have hfz10_0:=Qe BK562.out 0)|(refine gA (some 8) Tryz.func182 #[.agg #[.slice A0_0 l0_0.length c0_0]] ?_;(with_reducible refine (Qbm.calls k _ _ l0_0 t564 _ (uD HR0_0 HB) HC0_0.out A4.out).mono ?_);rintro e w11 ⟨v565,rfl,ho0,hb⟩;refine ⟨_,rfl,?_⟩;have HO566:=Aside0.mk (Kd.S_lower ho0 (Qd (vB HB)));replace BK562:=Aside0.mk (Qb (uK BK562) hb);replace HB:=Aside0.mk (Qc (vB HB) hb);(try clear hb ho0);obtain ⟨Ao12,co12,eo12⟩:=Kd.S_slice HO566.out;subst eo12)|(refine gA (some 9) Tryz.func185 #[.slice Ao12 t564.length co12] ?_;(with_reducible refine (Qba.calls k _ _ t564 t567 _ ?side1 ?side2 A5.out).mono ?_);(case side1=>repeat (first|exact (Kd.S_reads' HO566.out).2.2|(with_reducible refine Kd.C_alloc ?_ _)|(with_reducible refine Kd.C_drewN ?_ _)|(with_reducible refine Kd.C_drew ?_)));(case side2=>exact (Kd.S_reads' HO566.out).2.1);rintro e w13 ⟨v568,rfl,ho0,hb⟩;refine ⟨_,rfl,?_⟩;replace HO566:=Aside0.mk (Kd.S_elder' (uS HO566) (Kd.R_base ho0) hb);have HO569:=Aside0.mk (Kd.R_lower ho0 (Qd (vB HB)));replace BK562:=Aside0.mk (Qb (uK BK562) hb);replace HB:=Aside0.mk (Qc (vB HB) hb);(try clear hb ho0);obtain ⟨Ao14,co14,eo14⟩:=Kd.R_slice HO569.out;subst eo14)|(refine gA (some 10) Tryz.func189 #[.slice Ao14 t567.length co14] ?_;(with_reducible refine (Qcz.calls _ _ t567 t570 _ (uE HO569) ?side2 A6.out).mono ?_);(case side2=>exact (Kd.R_reads' HO569.out).2.1);rintro e w15 ⟨v571,rfl,ho0,hb⟩;refine ⟨_,rfl,?_⟩;replace HO566:=Aside0.mk (Kd.S_elder' (uS HO566) (Kd.R_base ho0) hb);have HO572:=Aside0.mk (Kd.R_lower (Kd.R_new' ho0 (Kd.R_lt (uR HO569))) (Qd (vB HB)));replace HO569:=Aside0.mk (Kd.R_elder' (uR HO569) (Kd.R_base ho0) hb);replace BK562:=Aside0.mk (Qb (uK BK562) hb);replace HB:=Aside0.mk (Qc (vB HB) hb);(try clear hb ho0)))
  go_ret2
  exact ⟨_,by first|rfl|(simp [Qf,Qg] <;>rfl)|(simp [*,Qf,Qg] <;>rfl),Kd.R_mono (uR HO572) (fun _ hk=>trivial),(vB HB)⟩
 ·
  replace c3:=Bool.eq_false_iff.mpr c3;subst c3;rw [if_neg (show ¬ (false=true) by decide)] at H;simp only [Option.some.injEq,Prod.mk.injEq] at H;obtain ⟨rfl,rfl⟩:=H;go_enter Tryz.func44,Tryz.ntmps44;go_wp2_with (first|(refine bE (N:=1) (cs:= #[.slice A0_0 l0_0.length c0_0]) (t:=26) ?_;intro gb562 hg w16 hbox hb;have BK562:=Aside0.mk (hbox);have GW562:=Aside0.mk ((by rw [hg];exact (Qd (uB HB)):w.heap.size≤gb562));have GE562:=GW562;replace HB:=Aside0.mk (Qc (uB HB) hb);clear hb hbox hg;have hcz17_0:=bC BK562;have hfz17_0:=Qe BK562.out 0)|(refine gA (some 5) Tryz.func178 #[.agg #[.slice A0_0 l0_0.length c0_0]] ?_;(with_reducible refine (Qy.calls k _ _ l0_0 false _ (uD HR0_0 HB) HC0_0.out A2.out).mono ?_);rintro e w18 ⟨rfl,hb⟩;refine ⟨_,rfl,?_⟩;replace BK562:=Aside0.mk (Qb (uK BK562) hb);replace HB:=Aside0.mk (Qc (vB HB) hb);(try clear hb)))
  go_ret2
  exact ⟨_,by first|rfl|(simp [Qf,Qg] <;>rfl)|(simp [*,Qf,Qg] <;>rfl),by first|exact Kd.R_nil _ _ _ _ _|exact Kd.N_nil _ _ _ _ _|exact Kd.V_nil _ _ _ _ _|exact Kd.Q_nil _ _ _ _ _|exact Kd.S_nil _ _ _ _ _,(vB HB)⟩
mutual
def Q7.l0 : Nat → List Int → List Int → Int → Int → Option (List Int)
 |0,_,_,_,_=>none
 |k+1,x3,x8,x9,x10=>if x10<x9 then (if 0≤x10 then (if x10<(x8.length:Int) then (Q7.l1 k x3 (rd x8 x10) 0 x8 x9 x10) else (none)) else (none)) else (some x3)
def Q7.l1 : Nat → List Int → Int → Int → List Int → Int → Int → Option (List Int)
 |0,_,_,_,_,_,_=>none
 |k+1,x3,x5,x6,x8,x9,x10=>if x6<(x3.length:Int) then (if 0≤x6 then (if (rd x3 x6)≤x5 then (Q7.l1 k x3 x5 (wrap64 (x6+1)) x8 x9 x10) else ((some (([] :List Int):List Int)).bind fun y575=>(if x6≤(x3.length:Int) then ((some (x3.take (x6:Int).toNat:List Int)).bind fun y578=>(if y575.length+y578.length<17592186044416 then ((some (y575++y578:List Int)).bind fun y582=>(if y582.length<17592186044416 then ((some (y582++ [x5] :List Int)).bind fun y585=>((some (x3.drop (x6:Int).toNat:List Int)).bind fun y588=>(if y585.length+y588.length<17592186044416 then (Q7.l0 k (y585++y588) x8 x9 (wrap64 (x10+1))) else (none)))) else (none))) else (none))) else (none)))) else (none)) else ((some (([] :List Int):List Int)).bind fun y595=>(if 0≤x6 then (if x6≤(x3.length:Int) then ((some (x3.take (x6:Int).toNat:List Int)).bind fun y598=>(if y595.length+y598.length<17592186044416 then ((some (y595++y598:List Int)).bind fun y602=>(if y602.length<17592186044416 then ((some (y602++ [x5] :List Int)).bind fun y605=>((some (x3.drop (x6:Int).toNat:List Int)).bind fun y608=>(if y605.length+y608.length<17592186044416 then (Q7.l0 k (y605++y608) x8 x9 (wrap64 (x10+1))) else (none)))) else (none))) else (none))) else (none)) else (none)))
end
def Q7.f (k : Nat) (l0 : List Int) : Option (List Int) := Q7.l0 k ([] : List Int) l0 (l0.length : Int) 0
theorem Q7.mono_l : ∀ k, (∀ y0 y1 y2 y3, LeO (Q7.l0 k y0 y1 y2 y3) (Q7.l0 (k + 1) y0 y1 y2 y3)) ∧ (∀ y0 y1 y2 y3 y4 y5, LeO (Q7.l1 k y0 y1 y2 y3 y4 y5) (Q7.l1 (k + 1) y0 y1 y2 y3 y4 y5))
 |0=>⟨fun _ _ _ _ r h=>by simp [Q7.l0] at h,fun _ _ _ _ _ _ r h=>by simp [Q7.l1] at h⟩
 |k+1=>by
  obtain ⟨ih0,ih1⟩:=Q7.mono_l k;refine ⟨?_,?_⟩
  all_goals
   intros
   first|unfold Q7.l0|unfold Q7.l1
   repeat' (with_reducible first|apply ih0|apply ih1|exact LeO.refl _|exact LeO.none _|refine LeO.ite ?_ ?_|refine LeO.bind ?_ (fun _=> ?_))
theorem Q7.mono : ∀ a0 k, LeO (Q7.f k a0) (Q7.f (k + 1) a0) := by
 intro a0 k;obtain ⟨ih0,ih1⟩:=Q7.mono_l k;unfold Q7.f
 repeat' (with_reducible first|apply ih0|apply ih1|exact LeO.refl _|exact LeO.none _|refine LeO.ite ?_ ?_|refine LeO.bind ?_ (fun _=> ?_))
set_option maxHeartbeats 8000000 in
set_option maxRecDepth 100000 in
theorem Q7.calls (k : Nat) (A0 : Option Addr) (c0 : Nat) (l0 : List Int) (r : List Int) (w : World) (hr0 : Kd.C (Kd.int .i64) w A0 l0.length l0) (hc0 : l0.length ≤ c0) (h : Q7.f k l0 = some r) :
 Calls Tryz.prog 45 #[.slice A0 l0.length c0] w fun e w'=> ∃ v0_:Value,e= .returned (v0_)∧Kd.R (Kd.int .i64) 3 w' w.heap.size (fun _=>True) v0_ r∧Below w.heap.size w w':=by
 have HR0:=Aside0.mk hr0;have HC0:=Aside0.mk hc0;clear hr0 hc0;have HB:=Aside0.mk (Below.refl w.heap.size w);have H:(Q7.l0 k ([] :List Int) l0 (l0.length:Int) 0)=some r:=h;clear h;have H':=Aside0.mk H;clear H;go_enter Tryz.func45,Tryz.ntmps45;go_wp2
 go_loopg [3,10] k (fun kq v3 v10 w'=> ∃ (x3_1:List Int) (x10_1:Int),v10= .int .i64 x10_1∧Aside0 (Q7.l0 kq x3_1 l0 (l0.length:Int) x10_1=some r)∧Aside0 (kq≤k)∧Aside0 (Kd.R (Kd.int .i64) 3 w' w.heap.size (fun _=>True) v3 x3_1)∧Aside0 (Below w.heap.size w w'))
 case atStart=>exact ⟨(([] :List Int)),(0),(by first|rfl|(simp;done)|(simp [*];done)),H',⟨Nat.le_refl _⟩,⟨by first|exact Kd.R_nil _ _ _ _ _|exact Kd.N_nil _ _ _ _ _|exact Kd.V_nil _ _ _ _ _|exact Kd.Q_nil _ _ _ _ _|exact Kd.S_nil _ _ _ _ _⟩,⟨uB HB⟩⟩
 case round=>
  clear H';obtain ⟨x3_1,x10_1,rfl,HA,HK1,HO_3,HB⟩:=hrel;cases gk with
  |zero=>exact absurd HA.out (by simp [Q7.l0])
  |succ k1=>
   have H:=HA.out;clear HA;simp only [Q7.l0] at H
   by_cases c2:x10_1<(l0.length:Int)
   ·
    rw [if_pos c2] at H;have c2b0:=decide_eq_true c2;clear c2
    by_cases c3:0≤x10_1
    ·
     rw [if_pos c3] at H;have c3b0:=decide_eq_true c3;clear c3
     by_cases c4:x10_1<(l0.length:Int)
     ·
      rw [if_pos c4] at H;have c4b0:=decide_eq_true c4;clear c4;have H':=Aside0.mk H;clear H;have p573:0≤(x10_1:Int):=of_decide_eq_true (by first|(with_reducible assumption)|assumption);have q573:x10_1<(l0.length:Int):=of_decide_eq_true (by first|(with_reducible assumption)|assumption);obtain ⟨ad573,e573,hx573_0⟩:=Kd.at_int HR0.out x10_1 p573 q573;cases e573;replace hx573_0:=(HB.out.cell (World.block_lt_of_cell? w _ hx573_0)).trans hx573_0;replace p573:=eq_true p573;replace q573:=eq_true q573;go_wp2
      go_loopg [6] k1 (fun kq v6 w'=> ∃ (x6_2:Int),v6= .int .i64 x6_2∧Aside0 (Q7.l1 kq x3_1 (rd l0 x10_1) x6_2 l0 (l0.length:Int) x10_1=some r)∧Aside0 (kq≤k1)∧Aside0 (Kd.R (Kd.int .i64) 3 w' w.heap.size (fun _=>True) u3 x3_1)∧Aside0 (Below w.heap.size w w'))
      case atStart=>exact ⟨(0),(by first|rfl|(simp;done)|(simp [*];done)),H',⟨Nat.le_refl _⟩,⟨uR HO_3⟩,⟨uB HB⟩⟩
      case round=>
       clear H'
       try clear c2b0 c3b0 c4b0 hx573_0 p573 q573
       obtain ⟨x6_2,rfl,HA,HK2,HO_3,HB⟩:=hrel;cases gk with
       |zero=>exact absurd HA.out (by simp [Q7.l1])
       |succ k2=>
        have H:=HA.out;clear HA;simp only [Q7.l1] at H
        by_cases c5:x6_2<(x3_1.length:Int)
        ·
         rw [if_pos c5] at H;have c5b0:=decide_eq_true c5;clear c5
         by_cases c6:0≤x6_2
         ·
          rw [if_pos c6] at H;have c6b0:=decide_eq_true c6;clear c6
          by_cases c7:(rd x3_1 x6_2)≤(rd l0 x10_1)
          ·
           rw [if_pos c7] at H;have c7b0:=decide_eq_true c7;clear c7;have H':=Aside0.mk H;clear H;obtain ⟨Ao8,co8,eo8⟩:=Kd.R_slice HO_3.out;subst eo8;have p574:0≤(x6_2:Int):=of_decide_eq_true (by first|(with_reducible assumption)|assumption);have q574:x6_2<(x3_1.length:Int):=of_decide_eq_true (by first|(with_reducible assumption)|assumption);obtain ⟨ad574,e574,hx574_0⟩:=Kd.at_int (Kd.R_reads' HO_3.out).2.2 x6_2 p574 q574;cases e574;replace p574:=eq_true p574;replace q574:=eq_true q574;go_wp2;go_roundg k2
           case measure=>have:=HK1.out;have:=HK2.out;omega
           case rel=>exact ⟨(wrap64 (x6_2+1)),(by first|rfl|(simp;done)|(simp [*];done)),H',⟨by have:=HK1.out;have:=HK2.out;omega⟩,⟨uR HO_3⟩,⟨uB HB⟩⟩
          ·
           rw [if_neg c7] at H;have c7b0:=decide_eq_false c7;clear c7;obtain ⟨y575,hy575⟩: ∃ y_:List Int,y_=(([] :List Int)):=⟨_,rfl⟩
           replace H:(if x6_2≤(x3_1.length:Int) then ((some (x3_1.take (x6_2:Int).toNat:List Int)).bind fun y578=>(if y575.length+y578.length<17592186044416 then ((some (y575++y578:List Int)).bind fun y582=>(if y582.length<17592186044416 then ((some (y582++ [(rd l0 x10_1)] :List Int)).bind fun y585=>((some (x3_1.drop (x6_2:Int).toNat:List Int)).bind fun y588=>(if y585.length+y588.length<17592186044416 then (Q7.l0 k2 (y585++y588) l0 (l0.length:Int) (wrap64 (x10_1+1))) else (none)))) else (none))) else (none))) else (none))=some r:=by first|(rw [hy575];with_reducible exact H)|(have H2_:=(Option.bind_some _ _).symm.trans H;rw [hy575];with_reducible exact H2_)|(have H2_:=(Option.bind_some _ _).symm.trans H;with_reducible exact H2_)|with_reducible exact H|(rw [hy575];exact H)|exact H
           have Ny575:=Aside0.mk hy575;clear hy575;have c9b0:=eq_true (of_decide_eq_true (by first|(with_reducible assumption)|assumption):0≤x6_2)
           by_cases c10:x6_2≤(x3_1.length:Int)
           ·
            rw [if_pos c10] at H;have c10b0:=eq_true c10;have c10b1:=decide_eq_true c10;clear c10;obtain ⟨y578,hy578⟩: ∃ y_:List Int,y_=(x3_1.take (x6_2:Int).toNat):=⟨_,rfl⟩
            replace H:(if y575.length+y578.length<17592186044416 then ((some (y575++y578:List Int)).bind fun y582=>(if y582.length<17592186044416 then ((some (y582++ [(rd l0 x10_1)] :List Int)).bind fun y585=>((some (x3_1.drop (x6_2:Int).toNat:List Int)).bind fun y588=>(if y585.length+y588.length<17592186044416 then (Q7.l0 k2 (y585++y588) l0 (l0.length:Int) (wrap64 (x10_1+1))) else (none)))) else (none))) else (none))=some r:=by first|(rw [hy578];with_reducible exact H)|(have H2_:=(Option.bind_some _ _).symm.trans H;rw [hy578];with_reducible exact H2_)|(have H2_:=(Option.bind_some _ _).symm.trans H;with_reducible exact H2_)|with_reducible exact H|(rw [hy578];exact H)|exact H
            have Ny578:=Aside0.mk hy578;clear hy578
            by_cases c11:y575.length+y578.length<17592186044416
            ·
             rw [if_pos c11] at H;have LMc11:=Aside0.mk c11;clear c11;obtain ⟨y582,hy582⟩: ∃ y_:List Int,y_=(y575++y578):=⟨_,rfl⟩
             replace H:(if y582.length<17592186044416 then ((some (y582++ [(rd l0 x10_1)] :List Int)).bind fun y585=>((some (x3_1.drop (x6_2:Int).toNat:List Int)).bind fun y588=>(if y585.length+y588.length<17592186044416 then (Q7.l0 k2 (y585++y588) l0 (l0.length:Int) (wrap64 (x10_1+1))) else (none)))) else (none))=some r:=by first|(rw [hy582];with_reducible exact H)|(have H2_:=(Option.bind_some _ _).symm.trans H;rw [hy582];with_reducible exact H2_)|(have H2_:=(Option.bind_some _ _).symm.trans H;with_reducible exact H2_)|with_reducible exact H|(rw [hy582];exact H)|exact H
             have Ny582:=Aside0.mk hy582;clear hy582
             by_cases c12:y582.length<17592186044416
             ·
              rw [if_pos c12] at H;have LMc12:=Aside0.mk c12;clear c12;obtain ⟨y585,hy585⟩: ∃ y_:List Int,y_=(y582++ [(rd l0 x10_1)]):=⟨_,rfl⟩
              replace H:((some (x3_1.drop (x6_2:Int).toNat:List Int)).bind fun y588=>(if y585.length+y588.length<17592186044416 then (Q7.l0 k2 (y585++y588) l0 (l0.length:Int) (wrap64 (x10_1+1))) else (none)))=some r:=by first|(rw [hy585];with_reducible exact H)|(have H2_:=(Option.bind_some _ _).symm.trans H;rw [hy585];with_reducible exact H2_)|(have H2_:=(Option.bind_some _ _).symm.trans H;with_reducible exact H2_)|with_reducible exact H|(rw [hy585];exact H)|exact H
              have Ny585:=Aside0.mk hy585;clear hy585;have c13b0:=eq_true (of_decide_eq_true (by first|(with_reducible assumption)|assumption):0≤x6_2);have c14b0:=eq_true (of_decide_eq_true (by first|(with_reducible assumption)|assumption):x6_2≤(x3_1.length:Int));obtain ⟨y588,hy588⟩: ∃ y_:List Int,y_=(x3_1.drop (x6_2:Int).toNat):=⟨_,rfl⟩
              replace H:(if y585.length+y588.length<17592186044416 then (Q7.l0 k2 (y585++y588) l0 (l0.length:Int) (wrap64 (x10_1+1))) else (none))=some r:=by first|(rw [hy588];with_reducible exact H)|(have H2_:=(Option.bind_some _ _).symm.trans H;rw [hy588];with_reducible exact H2_)|(have H2_:=(Option.bind_some _ _).symm.trans H;with_reducible exact H2_)|with_reducible exact H|(rw [hy588];exact H)|exact H
              have Ny588:=Aside0.mk hy588;clear hy588
              by_cases c15:y585.length+y588.length<17592186044416
              ·
               rw [if_pos c15] at H;have LMc15:=Aside0.mk c15;clear c15;obtain ⟨y592,hy592⟩: ∃ y_:List Int,y_=(y585++y588):=⟨_,rfl⟩
               replace H:(Q7.l0 k2 y592 l0 (l0.length:Int) (wrap64 (x10_1+1)))=some r:=by first|(rw [hy592];with_reducible exact H)|(have H2_:=(Option.bind_some _ _).symm.trans H;rw [hy592];with_reducible exact H2_)|(have H2_:=(Option.bind_some _ _).symm.trans H;with_reducible exact H2_)|with_reducible exact H|(rw [hy592];exact H)|exact H
               have Ny592:=Aside0.mk hy592;clear hy592;have H':=Aside0.mk H;clear H;obtain ⟨Ao16,co16,eo16⟩:=Kd.R_slice HO_3.out;subst eo16;have p574:0≤(x6_2:Int):=of_decide_eq_true (by first|(with_reducible assumption)|assumption);have q574:x6_2<(x3_1.length:Int):=of_decide_eq_true (by first|(with_reducible assumption)|assumption);obtain ⟨ad574,e574,hx574_0⟩:=Kd.at_int (Kd.R_reads' HO_3.out).2.2 x6_2 p574 q574;cases e574;replace p574:=eq_true p574;replace q574:=eq_true q574;go_wp2_with (first|((with_reducible refine Qbl (N:=28) rfl ?_);refine Kd.R_lit (Kd.int .i64) _ 3 ?hg (N:=28) ?hd (xs:=([] :List Int)) (inner:= []) (ok:=fun _=>True) (okp:=fun _=>True) ?hr ?hp (fun _ hk=>hk) trivial (Below.refl _ _) (Nat.le_refl _) (by simp) ?_;(case hd=>rfl);(case hg=>rfl);(case hr=>first|(go_simp;done)|(go_simp;rfl));(case hp=>exact (Reps.none _ _));intro v576 w17 ho18 hb hg_ hnew_;clear hg_ hnew_;(first|rw [←Ny575.out] at ho18|(simp only [Int.reduceToNat] at ho18;rw [←Ny575.out] at ho18));have HO577:=Aside0.mk (Kd.R_lower (Kd.R_new' ho18 (Kd.R_lt (uR HO_3))) (Qd (uB HB)));replace HO_3:=Aside0.mk (Kd.R_elder' (uR HO_3) (Kd.R_base ho18) hb);replace HB:=Aside0.mk (Qc (uB HB) hb);clear hb ho18;have q19:(x6_2:Int)≤((x3_1.length:Int):Int):=of_decide_eq_true (by first|(with_reducible assumption)|assumption);obtain ⟨i019,hi019,_,hsz19,_⟩:=info_parts Qdv;have hroom19:x3_1.length≤co16:=(Kd.R_reads' HO_3.out).2.1;have hC19:Kd.C (Kd.int .i64) _ (some ad574) x3_1.length x3_1:=(Kd.R_reads' HO_3.out).2.2;have hcut19:=cut_to (P:=Tryz.prog) 24 3 .i64 Tryz.underlying24 hi019 (some ad574) x3_1.length co16 x6_2 (of_decide_eq_true (by first|(with_reducible assumption)|assumption)) q19 hroom19;have hr19:=Kd.C_take (m:=(x6_2:Int).toNat) hC19 (by omega);have hy19:y578.length=(x6_2:Int).toNat:=(by rw [Ny578.out,List.length_take];omega);rw [←Ny578.out] at hr19;rw [←hy19] at hcut19;have HR581:=Aside0.mk hr19;have HC581:=Aside0.mk (show y578.length≤co16 from by omega);clear hr19 hC19 hroom19 hi019 hsz19;have KY19:=Aside0.mk hy19;clear hy19;have KL19:=Aside0.mk (show (x6_2:Int).toNat≤x3_1.length from by omega);replace q19:=eq_true q19)|((with_reducible refine Qb5 (b:= .append) (xs:= #[.tmp 28, .tmp 31]) rfl ?_);at_builtin;refine Kd.R_append_rows (Kd.int .i64) (w0:=w) w.heap.size rfl (.tmp 28) (.tmp 31) 24 3 (.int .i64 0) 8 rfl Tryz.underlying24 Qdv rfl (by decide) (by omega) v576 y575 y578 _ _ _ (fun k_=>some k_≠(.slice (some ad574) x3_1.length co16:Value).ownBlock) (fun _=>False) rfl rfl ?aO ?aR (fun _ _ h=>h) (fun _ h=>h.elim) ?aF ?aB ?aS ?aL ?_;(case aR=>repeat (first|exact (by repeat (first|(with_reducible exact HR581.out)|(with_reducible refine Kd.C_alloc ?_ _)|(with_reducible refine Kd.C_drewN ?_ _)|(with_reducible refine Kd.C_drew ?_)|exact HR581.out))|(with_reducible refine Kd.C_alloc ?_ _)|(with_reducible refine Kd.C_drewN ?_ _)|(with_reducible refine Kd.C_drew ?_)));(case aB=>exact (uB HB));(case aF=>exact (fun k_ hk=>Kd.fresh' (Kd.R_lt (uR HO_3)) k_ hk));(case aO=>exact (Kd.R_mono (uR HO577) (fun _ hk=>hk.2)));(case aS=>exact (Qd (uB HB)));(case aL=>have:=LMc11.out;omega);intro v583 w20 ho hb hg hat;rw [←Ny582.out] at ho;replace HB:=Aside0.mk (hb);replace HR581:=Aside0.mk ((show Kd.C (Kd.int .i64) w20 (some ad574) y578.length y578 from by rw [Ny578.out];exact Kd.C_take (m:=(x6_2:Int).toNat) ((Kd.R_reads' (Kd.R_after (ok:=(fun _=>True)) (uR HO_3) hg hat)).2.2) KL19.out));replace HO_3:=Aside0.mk (Kd.R_after (ok:=(fun _=>True)) (uR HO_3) hg hat);have HO584:=Aside0.mk (ho);clear HO577;clear ho hb hg hat)|((with_reducible refine Qb5 (b:= .append) (xs:= #[.tmp 32, .tmp 34]) rfl ?_);at_builtin;refine Kd.R_append (Kd.int .i64) (w0:=w) w.heap.size rfl (.tmp 32) (.tmp 34) 24 3 (.int .i64 0) 8 rfl Tryz.underlying24 Qdv rfl (by decide) (by omega) v583 y582 (rd l0 x10_1) [.int .i64 (rd l0 x10_1)] (fun k_=>some k_≠(.slice (some ad574) x3_1.length co16:Value).ownBlock) (fun _=>False) rfl rfl ?aP (fun _ hk=>hk.elim) ?aF ?aO ?aB ?aS ?aL ?_;(case aP=>exact rfl);(case aB=>exact (uB HB));(case aF=>exact (fun k_ hk=>Kd.fresh' (Kd.R_lt (uR HO_3)) k_ hk));(case aO=>exact (uR HO584));(case aS=>exact (Qd (uB HB)));(case aL=>have:=LMc12.out;omega);intro v586 w21 ho hb hg hat;rw [←Ny585.out] at ho;replace HB:=Aside0.mk (hb);replace HR581:=Aside0.mk ((show Kd.C (Kd.int .i64) w21 (some ad574) y578.length y578 from by rw [Ny578.out];exact Kd.C_take (m:=(x6_2:Int).toNat) ((Kd.R_reads' (Kd.R_after (ok:=(fun _=>True)) (uR HO_3) hg hat)).2.2) KL19.out));replace HO_3:=Aside0.mk (Kd.R_after (ok:=(fun _=>True)) (uR HO_3) hg hat);have HO587:=Aside0.mk (ho);clear HO584;clear ho hb hg hat;have q22:(x6_2:Int)≤((x3_1.length:Int):Int):=of_decide_eq_true (by first|(with_reducible assumption)|assumption);obtain ⟨i022,hi022,_,hsz22,_⟩:=info_parts Qdv;have hroom22:x3_1.length≤co16:=(Kd.R_reads' HO_3.out).2.1;have hC22:Kd.C (Kd.int .i64) _ (some ad574) x3_1.length x3_1:=(Kd.R_reads' HO_3.out).2.2;have q022:(0:Int)≤(x6_2:Int):=of_decide_eq_true (by first|(with_reducible assumption)|assumption);have hcut22:=Qky (P:=Tryz.prog) 24 3 .i64 Tryz.underlying24 hi022 1 hsz22 (some ad574) x3_1.length co16 x6_2 q022 q22;have hr22:=Kd.C_drop (m:=(x6_2:Int).toNat) (c:=co16) hC22 (by omega) hroom22;obtain ⟨A22,hA22⟩: ∃ A1,A1=(if co16=(x6_2:Int).toNat then (some ad574) else ((some ad574):Option Addr).map (·.add ((x6_2:Int).toNat*1))):=⟨_,rfl⟩;obtain ⟨c22,hc22⟩: ∃ c1,c1=co16 - (x6_2:Int).toNat:=⟨_,rfl⟩;have hy22:y588.length=x3_1.length - (x6_2:Int).toNat:=(by rw [Ny588.out,List.length_drop] <;>omega);rw [show (x3_1).drop (x6_2:Int).toNat=y588 from Ny588.out.symm] at hr22;replace hr22:Kd.C (Kd.int .i64) _ A22 y588.length y588:=(by rw [hA22];exact hr22);rw [←hy22,←hA22,←hc22] at hcut22;have HR591:=Aside0.mk hr22;have HC591:=Aside0.mk (show y588.length≤c22 from by rw [hy22,hc22];exact Nat.sub_le_sub_right hroom22 _);clear hr22 hC22 hroom22 hi022 hsz22 hc22;have KY22:=Aside0.mk hy22;have KA22:=Aside0.mk hA22;clear hy22 hA22;have KL22:=Aside0.mk (show (x6_2:Int).toNat≤x3_1.length from by omega);replace q22:=eq_true q22)|((with_reducible refine Qb5 (b:= .append) (xs:= #[.tmp 36, .tmp 39]) rfl ?_);at_builtin;refine Kd.R_append_rows (Kd.int .i64) (w0:=w) w.heap.size rfl (.tmp 36) (.tmp 39) 24 3 (.int .i64 0) 8 rfl Tryz.underlying24 Qdv rfl (by decide) (by omega) v586 y585 y588 _ _ _ (fun k_=>some k_≠(.slice (some ad574) x3_1.length co16:Value).ownBlock) (fun _=>False) rfl rfl ?aO ?aR (fun _ _ h=>h) (fun _ h=>h.elim) ?aF ?aB ?aS ?aL ?_;(case aR=>repeat (first|exact (by repeat (first|(with_reducible exact HR591.out)|(with_reducible refine Kd.C_alloc ?_ _)|(with_reducible refine Kd.C_drewN ?_ _)|(with_reducible refine Kd.C_drew ?_)|exact HR591.out))|(with_reducible refine Kd.C_alloc ?_ _)|(with_reducible refine Kd.C_drewN ?_ _)|(with_reducible refine Kd.C_drew ?_)));(case aB=>exact (uB HB));(case aF=>exact (fun k_ hk=>Kd.fresh' (Kd.R_lt (uR HO_3)) k_ hk));(case aO=>exact (uR HO587));(case aS=>exact (Qd (uB HB)));(case aL=>have:=LMc15.out;omega);intro v593 w23 ho hb hg hat;rw [←Ny592.out] at ho;replace HB:=Aside0.mk (hb);replace HR581:=Aside0.mk ((show Kd.C (Kd.int .i64) w23 (some ad574) y578.length y578 from by rw [Ny578.out];exact Kd.C_take (m:=(x6_2:Int).toNat) ((Kd.R_reads' (Kd.R_after (ok:=(fun _=>True)) (uR HO_3) hg hat)).2.2) KL19.out));replace HR591:=Aside0.mk ((show Kd.C (Kd.int .i64) w23 A22 y588.length y588 from by rw [Ny588.out,KA22.out];exact Kd.C_drop (m:=(x6_2:Int).toNat) (c:=co16) ((Kd.R_reads' (Kd.R_after (ok:=(fun _=>True)) (uR HO_3) hg hat)).2.2) KL22.out ((Kd.R_reads' (Kd.R_after (ok:=(fun _=>True)) (uR HO_3) hg hat)).2.1)));replace HO_3:=Aside0.mk (Kd.R_after (ok:=(fun _=>True)) (uR HO_3) hg hat);have HO594:=Aside0.mk (ho);clear HO587;clear ho hb hg hat))
               go_roundg k2
               case measure=>have:=HK1.out;have:=HK2.out;omega
               case rel=>exact ⟨(y592),(wrap64 (x10_1+1)),(by first|rfl|(simp;done)|(simp [*];done)),H',⟨by have:=HK1.out;have:=HK2.out;omega⟩,⟨Kd.R_mono (uR HO594) (fun _ hk=>trivial)⟩,⟨uB HB⟩⟩
              ·
               rw [if_neg c15] at H;exact absurd H (by simp)
             ·
              rw [if_neg c12] at H;exact absurd H (by simp)
            ·
             rw [if_neg c11] at H;exact absurd H (by simp)
           ·
            rw [if_neg c10] at H;exact absurd H (by simp)
         ·
          rw [if_neg c6] at H;exact absurd H (by simp)
        ·
         rw [if_neg c5] at H;have c5b0:=decide_eq_false c5;clear c5;obtain ⟨y595,hy595⟩: ∃ y_:List Int,y_=(([] :List Int)):=⟨_,rfl⟩
         replace H:(if 0≤x6_2 then (if x6_2≤(x3_1.length:Int) then ((some (x3_1.take (x6_2:Int).toNat:List Int)).bind fun y598=>(if y595.length+y598.length<17592186044416 then ((some (y595++y598:List Int)).bind fun y602=>(if y602.length<17592186044416 then ((some (y602++ [(rd l0 x10_1)] :List Int)).bind fun y605=>((some (x3_1.drop (x6_2:Int).toNat:List Int)).bind fun y608=>(if y605.length+y608.length<17592186044416 then (Q7.l0 k2 (y605++y608) l0 (l0.length:Int) (wrap64 (x10_1+1))) else (none)))) else (none))) else (none))) else (none)) else (none))=some r:=by first|(rw [hy595];with_reducible exact H)|(have H2_:=(Option.bind_some _ _).symm.trans H;rw [hy595];with_reducible exact H2_)|(have H2_:=(Option.bind_some _ _).symm.trans H;with_reducible exact H2_)|with_reducible exact H|(rw [hy595];exact H)|exact H
         have Ny595:=Aside0.mk hy595;clear hy595
         by_cases c24:0≤x6_2
         ·
          rw [if_pos c24] at H;have c24b0:=eq_true c24;have c24b1:=decide_eq_true c24;clear c24
          by_cases c25:x6_2≤(x3_1.length:Int)
          ·
           rw [if_pos c25] at H;have c25b0:=eq_true c25;have c25b1:=decide_eq_true c25;clear c25;obtain ⟨y598,hy598⟩: ∃ y_:List Int,y_=(x3_1.take (x6_2:Int).toNat):=⟨_,rfl⟩
           replace H:(if y595.length+y598.length<17592186044416 then ((some (y595++y598:List Int)).bind fun y602=>(if y602.length<17592186044416 then ((some (y602++ [(rd l0 x10_1)] :List Int)).bind fun y605=>((some (x3_1.drop (x6_2:Int).toNat:List Int)).bind fun y608=>(if y605.length+y608.length<17592186044416 then (Q7.l0 k2 (y605++y608) l0 (l0.length:Int) (wrap64 (x10_1+1))) else (none)))) else (none))) else (none))=some r:=by first|(rw [hy598];with_reducible exact H)|(have H2_:=(Option.bind_some _ _).symm.trans H;rw [hy598];with_reducible exact H2_)|(have H2_:=(Option.bind_some _ _).symm.trans H;with_reducible exact H2_)|with_reducible exact H|(rw [hy598];exact H)|exact H
           have Ny598:=Aside0.mk hy598;clear hy598
           by_cases c26:y595.length+y598.length<17592186044416
           ·
            rw [if_pos c26] at H;have LMc26:=Aside0.mk c26;clear c26;obtain ⟨y602,hy602⟩: ∃ y_:List Int,y_=(y595++y598):=⟨_,rfl⟩
            replace H:(if y602.length<17592186044416 then ((some (y602++ [(rd l0 x10_1)] :List Int)).bind fun y605=>((some (x3_1.drop (x6_2:Int).toNat:List Int)).bind fun y608=>(if y605.length+y608.length<17592186044416 then (Q7.l0 k2 (y605++y608) l0 (l0.length:Int) (wrap64 (x10_1+1))) else (none)))) else (none))=some r:=by first|(rw [hy602];with_reducible exact H)|(have H2_:=(Option.bind_some _ _).symm.trans H;rw [hy602];with_reducible exact H2_)|(have H2_:=(Option.bind_some _ _).symm.trans H;with_reducible exact H2_)|with_reducible exact H|(rw [hy602];exact H)|exact H
            have Ny602:=Aside0.mk hy602;clear hy602
            by_cases c27:y602.length<17592186044416
            ·
             rw [if_pos c27] at H;have LMc27:=Aside0.mk c27;clear c27;obtain ⟨y605,hy605⟩: ∃ y_:List Int,y_=(y602++ [(rd l0 x10_1)]):=⟨_,rfl⟩
             replace H:((some (x3_1.drop (x6_2:Int).toNat:List Int)).bind fun y608=>(if y605.length+y608.length<17592186044416 then (Q7.l0 k2 (y605++y608) l0 (l0.length:Int) (wrap64 (x10_1+1))) else (none)))=some r:=by first|(rw [hy605];with_reducible exact H)|(have H2_:=(Option.bind_some _ _).symm.trans H;rw [hy605];with_reducible exact H2_)|(have H2_:=(Option.bind_some _ _).symm.trans H;with_reducible exact H2_)|with_reducible exact H|(rw [hy605];exact H)|exact H
             have Ny605:=Aside0.mk hy605;clear hy605;have c28b0:=eq_true (of_decide_eq_true (by first|(with_reducible assumption)|assumption):0≤x6_2);have c29b0:=eq_true (of_decide_eq_true (by first|(with_reducible assumption)|assumption):x6_2≤(x3_1.length:Int));obtain ⟨y608,hy608⟩: ∃ y_:List Int,y_=(x3_1.drop (x6_2:Int).toNat):=⟨_,rfl⟩
             replace H:(if y605.length+y608.length<17592186044416 then (Q7.l0 k2 (y605++y608) l0 (l0.length:Int) (wrap64 (x10_1+1))) else (none))=some r:=by first|(rw [hy608];with_reducible exact H)|(have H2_:=(Option.bind_some _ _).symm.trans H;rw [hy608];with_reducible exact H2_)|(have H2_:=(Option.bind_some _ _).symm.trans H;with_reducible exact H2_)|with_reducible exact H|(rw [hy608];exact H)|exact H
             have Ny608:=Aside0.mk hy608;clear hy608
             by_cases c30:y605.length+y608.length<17592186044416
             ·
              rw [if_pos c30] at H;have LMc30:=Aside0.mk c30;clear c30;obtain ⟨y612,hy612⟩: ∃ y_:List Int,y_=(y605++y608):=⟨_,rfl⟩
              replace H:(Q7.l0 k2 y612 l0 (l0.length:Int) (wrap64 (x10_1+1)))=some r:=by first|(rw [hy612];with_reducible exact H)|(have H2_:=(Option.bind_some _ _).symm.trans H;rw [hy612];with_reducible exact H2_)|(have H2_:=(Option.bind_some _ _).symm.trans H;with_reducible exact H2_)|with_reducible exact H|(rw [hy612];exact H)|exact H
              have Ny612:=Aside0.mk hy612;clear hy612;have H':=Aside0.mk H;clear H;obtain ⟨Ao31,co31,eo31⟩:=Kd.R_slice HO_3.out;subst eo31;go_wp2_with (first|((with_reducible refine Qbl (N:=28) rfl ?_);refine Kd.R_lit (Kd.int .i64) _ 3 ?hg (N:=28) ?hd (xs:=([] :List Int)) (inner:= []) (ok:=fun _=>True) (okp:=fun _=>True) ?hr ?hp (fun _ hk=>hk) trivial (Below.refl _ _) (Nat.le_refl _) (by simp) ?_;(case hd=>rfl);(case hg=>rfl);(case hr=>first|(go_simp;done)|(go_simp;rfl));(case hp=>exact (Reps.none _ _));intro v596 w32 ho33 hb hg_ hnew_;clear hg_ hnew_;(first|rw [←Ny595.out] at ho33|(simp only [Int.reduceToNat] at ho33;rw [←Ny595.out] at ho33));have HO597:=Aside0.mk (Kd.R_lower (Kd.R_new' ho33 (Kd.R_lt (uR HO_3))) (Qd (uB HB)));replace HO_3:=Aside0.mk (Kd.R_elder' (uR HO_3) (Kd.R_base ho33) hb);replace HB:=Aside0.mk (Qc (uB HB) hb);clear hb ho33;have q34:(x6_2:Int)≤((x3_1.length:Int):Int):=of_decide_eq_true (by first|(with_reducible assumption)|assumption);obtain ⟨i034,hi034,_,hsz34,_⟩:=info_parts Qdv;have hroom34:x3_1.length≤co31:=(Kd.R_reads' HO_3.out).2.1;have hC34:Kd.C (Kd.int .i64) _ Ao31 x3_1.length x3_1:=(Kd.R_reads' HO_3.out).2.2;have hcut34:=cut_to (P:=Tryz.prog) 24 3 .i64 Tryz.underlying24 hi034 Ao31 x3_1.length co31 x6_2 (of_decide_eq_true (by first|(with_reducible assumption)|assumption)) q34 hroom34;have hr34:=Kd.C_take (m:=(x6_2:Int).toNat) hC34 (by omega);have hy34:y598.length=(x6_2:Int).toNat:=(by rw [Ny598.out,List.length_take];omega);rw [←Ny598.out] at hr34;rw [←hy34] at hcut34;have HR601:=Aside0.mk hr34;have HC601:=Aside0.mk (show y598.length≤co31 from by omega);clear hr34 hC34 hroom34 hi034 hsz34;have KY34:=Aside0.mk hy34;clear hy34;have KL34:=Aside0.mk (show (x6_2:Int).toNat≤x3_1.length from by omega);replace q34:=eq_true q34)|((with_reducible refine Qb5 (b:= .append) (xs:= #[.tmp 28, .tmp 31]) rfl ?_);at_builtin;refine Kd.R_append_rows (Kd.int .i64) (w0:=w) w.heap.size rfl (.tmp 28) (.tmp 31) 24 3 (.int .i64 0) 8 rfl Tryz.underlying24 Qdv rfl (by decide) (by omega) v596 y595 y598 _ _ _ (fun k_=>some k_≠(.slice Ao31 x3_1.length co31:Value).ownBlock) (fun _=>False) rfl rfl ?aO ?aR (fun _ _ h=>h) (fun _ h=>h.elim) ?aF ?aB ?aS ?aL ?_;(case aR=>repeat (first|exact (by repeat (first|(with_reducible exact HR601.out)|(with_reducible refine Kd.C_alloc ?_ _)|(with_reducible refine Kd.C_drewN ?_ _)|(with_reducible refine Kd.C_drew ?_)|exact HR601.out))|(with_reducible refine Kd.C_alloc ?_ _)|(with_reducible refine Kd.C_drewN ?_ _)|(with_reducible refine Kd.C_drew ?_)));(case aB=>exact (uB HB));(case aF=>exact (fun k_ hk=>Kd.fresh' (Kd.R_lt (uR HO_3)) k_ hk));(case aO=>exact (Kd.R_mono (uR HO597) (fun _ hk=>hk.2)));(case aS=>exact (Qd (uB HB)));(case aL=>have:=LMc26.out;omega);intro v603 w35 ho hb hg hat;rw [←Ny602.out] at ho;replace HB:=Aside0.mk (hb);replace HR601:=Aside0.mk ((show Kd.C (Kd.int .i64) w35 Ao31 y598.length y598 from by rw [Ny598.out];exact Kd.C_take (m:=(x6_2:Int).toNat) ((Kd.R_reads' (Kd.R_after (ok:=(fun _=>True)) (uR HO_3) hg hat)).2.2) KL34.out));replace HO_3:=Aside0.mk (Kd.R_after (ok:=(fun _=>True)) (uR HO_3) hg hat);have HO604:=Aside0.mk (ho);clear HO597;clear ho hb hg hat)|((with_reducible refine Qb5 (b:= .append) (xs:= #[.tmp 32, .tmp 34]) rfl ?_);at_builtin;refine Kd.R_append (Kd.int .i64) (w0:=w) w.heap.size rfl (.tmp 32) (.tmp 34) 24 3 (.int .i64 0) 8 rfl Tryz.underlying24 Qdv rfl (by decide) (by omega) v603 y602 (rd l0 x10_1) [.int .i64 (rd l0 x10_1)] (fun k_=>some k_≠(.slice Ao31 x3_1.length co31:Value).ownBlock) (fun _=>False) rfl rfl ?aP (fun _ hk=>hk.elim) ?aF ?aO ?aB ?aS ?aL ?_;(case aP=>exact rfl);(case aB=>exact (uB HB));(case aF=>exact (fun k_ hk=>Kd.fresh' (Kd.R_lt (uR HO_3)) k_ hk));(case aO=>exact (uR HO604));(case aS=>exact (Qd (uB HB)));(case aL=>have:=LMc27.out;omega);intro v606 w36 ho hb hg hat;rw [←Ny605.out] at ho;replace HB:=Aside0.mk (hb);replace HR601:=Aside0.mk ((show Kd.C (Kd.int .i64) w36 Ao31 y598.length y598 from by rw [Ny598.out];exact Kd.C_take (m:=(x6_2:Int).toNat) ((Kd.R_reads' (Kd.R_after (ok:=(fun _=>True)) (uR HO_3) hg hat)).2.2) KL34.out));replace HO_3:=Aside0.mk (Kd.R_after (ok:=(fun _=>True)) (uR HO_3) hg hat);have HO607:=Aside0.mk (ho);clear HO604;clear ho hb hg hat;have q37:(x6_2:Int)≤((x3_1.length:Int):Int):=of_decide_eq_true (by first|(with_reducible assumption)|assumption);obtain ⟨i037,hi037,_,hsz37,_⟩:=info_parts Qdv;have hroom37:x3_1.length≤co31:=(Kd.R_reads' HO_3.out).2.1;have hC37:Kd.C (Kd.int .i64) _ Ao31 x3_1.length x3_1:=(Kd.R_reads' HO_3.out).2.2;have q037:(0:Int)≤(x6_2:Int):=of_decide_eq_true (by first|(with_reducible assumption)|assumption);have hcut37:=Qky (P:=Tryz.prog) 24 3 .i64 Tryz.underlying24 hi037 1 hsz37 Ao31 x3_1.length co31 x6_2 q037 q37;have hr37:=Kd.C_drop (m:=(x6_2:Int).toNat) (c:=co31) hC37 (by omega) hroom37;obtain ⟨A37,hA37⟩: ∃ A1,A1=(if co31=(x6_2:Int).toNat then Ao31 else (Ao31:Option Addr).map (·.add ((x6_2:Int).toNat*1))):=⟨_,rfl⟩;obtain ⟨c37,hc37⟩: ∃ c1,c1=co31 - (x6_2:Int).toNat:=⟨_,rfl⟩;have hy37:y608.length=x3_1.length - (x6_2:Int).toNat:=(by rw [Ny608.out,List.length_drop] <;>omega);rw [show (x3_1).drop (x6_2:Int).toNat=y608 from Ny608.out.symm] at hr37;replace hr37:Kd.C (Kd.int .i64) _ A37 y608.length y608:=(by rw [hA37];exact hr37);rw [←hy37,←hA37,←hc37] at hcut37;have HR611:=Aside0.mk hr37;have HC611:=Aside0.mk (show y608.length≤c37 from by rw [hy37,hc37];exact Nat.sub_le_sub_right hroom37 _);clear hr37 hC37 hroom37 hi037 hsz37 hc37;have KY37:=Aside0.mk hy37;have KA37:=Aside0.mk hA37;clear hy37 hA37;have KL37:=Aside0.mk (show (x6_2:Int).toNat≤x3_1.length from by omega);replace q37:=eq_true q37)|((with_reducible refine Qb5 (b:= .append) (xs:= #[.tmp 36, .tmp 39]) rfl ?_);at_builtin;refine Kd.R_append_rows (Kd.int .i64) (w0:=w) w.heap.size rfl (.tmp 36) (.tmp 39) 24 3 (.int .i64 0) 8 rfl Tryz.underlying24 Qdv rfl (by decide) (by omega) v606 y605 y608 _ _ _ (fun k_=>some k_≠(.slice Ao31 x3_1.length co31:Value).ownBlock) (fun _=>False) rfl rfl ?aO ?aR (fun _ _ h=>h) (fun _ h=>h.elim) ?aF ?aB ?aS ?aL ?_;(case aR=>repeat (first|exact (by repeat (first|(with_reducible exact HR611.out)|(with_reducible refine Kd.C_alloc ?_ _)|(with_reducible refine Kd.C_drewN ?_ _)|(with_reducible refine Kd.C_drew ?_)|exact HR611.out))|(with_reducible refine Kd.C_alloc ?_ _)|(with_reducible refine Kd.C_drewN ?_ _)|(with_reducible refine Kd.C_drew ?_)));(case aB=>exact (uB HB));(case aF=>exact (fun k_ hk=>Kd.fresh' (Kd.R_lt (uR HO_3)) k_ hk));(case aO=>exact (uR HO607));(case aS=>exact (Qd (uB HB)));(case aL=>have:=LMc30.out;omega);intro v613 w38 ho hb hg hat;rw [←Ny612.out] at ho;replace HB:=Aside0.mk (hb);replace HR601:=Aside0.mk ((show Kd.C (Kd.int .i64) w38 Ao31 y598.length y598 from by rw [Ny598.out];exact Kd.C_take (m:=(x6_2:Int).toNat) ((Kd.R_reads' (Kd.R_after (ok:=(fun _=>True)) (uR HO_3) hg hat)).2.2) KL34.out));replace HR611:=Aside0.mk ((show Kd.C (Kd.int .i64) w38 A37 y608.length y608 from by rw [Ny608.out,KA37.out];exact Kd.C_drop (m:=(x6_2:Int).toNat) (c:=co31) ((Kd.R_reads' (Kd.R_after (ok:=(fun _=>True)) (uR HO_3) hg hat)).2.2) KL37.out ((Kd.R_reads' (Kd.R_after (ok:=(fun _=>True)) (uR HO_3) hg hat)).2.1)));replace HO_3:=Aside0.mk (Kd.R_after (ok:=(fun _=>True)) (uR HO_3) hg hat);have HO614:=Aside0.mk (ho);clear HO607;clear ho hb hg hat))
              go_roundg k2
              case measure=>have:=HK1.out;have:=HK2.out;omega
              case rel=>exact ⟨(y612),(wrap64 (x10_1+1)),(by first|rfl|(simp;done)|(simp [*];done)),H',⟨by have:=HK1.out;have:=HK2.out;omega⟩,⟨Kd.R_mono (uR HO614) (fun _ hk=>trivial)⟩,⟨uB HB⟩⟩
             ·
              rw [if_neg c30] at H;exact absurd H (by simp)
            ·
             rw [if_neg c27] at H;exact absurd H (by simp)
           ·
            rw [if_neg c26] at H;exact absurd H (by simp)
          ·
           rw [if_neg c25] at H;exact absurd H (by simp)
         ·
          rw [if_neg c24] at H;exact absurd H (by simp)
     ·
      rw [if_neg c4] at H;exact absurd H (by simp)
    ·
     rw [if_neg c3] at H;exact absurd H (by simp)
   ·
    rw [if_neg c2] at H;have c2b0:=decide_eq_false c2;clear c2;obtain rfl:=Option.some.inj H;go_wp2
    go_ret
    exact ⟨_,by first|rfl|(simp [Qf,Qg] <;>rfl)|(simp [*,Qf,Qg] <;>rfl),uR HO_3,uB HB⟩
def Qcl.f (k : Nat) (l0 : List Int) : Option (List Int × Int) := (Qw.f k l0 0 0 7).bind fun bt617 => ((Qcj.f l0 bt617.2.1 bt617.2.2 (([0, 1, 2, 3, 4, 5, 6, 12, 1000, 1001, (-1)] : List Int))).bind fun bt625 => (some (bt617.1, bt625.1)))
theorem Qcl.mono : ∀ a0 k, LeO (Qcl.f k a0) (Qcl.f (k + 1) a0) := by
 intro a0 k;unfold Qcl.f
 repeat' (with_reducible first|apply Qw.mono|exact LeO.refl _|exact LeO.none _|refine LeO.ite ?_ ?_|refine LeO.bind ?_ (fun _=> ?_))
set_option maxHeartbeats 8000000 in
set_option maxRecDepth 100000 in
theorem Qcl.calls (k : Nat) (A0 : Option Addr) (c0 : Nat) (l0 : List Int) (r1 : List Int) (r2 : Int) (w : World) (hr0 : Kd.C (Kd.int .u8) w A0 l0.length l0) (hc0 : l0.length ≤ c0) (h : Qcl.f k l0 = some (r1, r2)) :
 Calls Tryz.prog 46 #[.slice A0 l0.length c0] w fun e w'=> ∃ v0_:Value,e= .returned (.tuple #[.agg #[v0_], .int .i64 r2])∧Kd.R (Kd.int .i64) 3 w' w.heap.size (fun _=>True) v0_ r1∧Below w.heap.size w w':=by
 have hu26:=Tryz.underlying26;have hu94:=Tryz.underlying94;have HR0:=Aside0.mk hr0;have HC0:=Aside0.mk hc0;clear hr0 hc0;have HB:=Aside0.mk (Below.refl w.heap.size w);have H:((Qw.f k l0 0 0 7).bind fun bt617=>((Qcj.f l0 bt617.2.1 bt617.2.2 (([0,1,2,3,4,5,6,12,1000,1001,(-1)] :List Int))).bind fun bt625=>(some (bt617.1,bt625.1))))=some (r1,r2):=h;clear h;obtain ⟨⟨t617,t620,t621⟩,A2,H⟩:=bs H;(try dsimp only at H)
 obtain ⟨y622,hy622⟩: ∃ y_:List Int,y_=(([0,1,2,3,4,5,6,12,1000,1001,(-1)] :List Int)):=⟨_,rfl⟩
 replace H:((Qcj.f l0 t620 t621 y622).bind fun bt625=>(some (t617,bt625.1)))=some (r1,r2):=by first|(rw [hy622];with_reducible exact H)|(have H2_:=(Option.bind_some _ _).symm.trans H;rw [hy622];with_reducible exact H2_)|(have H2_:=(Option.bind_some _ _).symm.trans H;with_reducible exact H2_)|with_reducible exact H|(rw [hy622];exact H)|exact H
 have Ny622:=Aside0.mk hy622;clear hy622;obtain ⟨⟨t625,t626,t627⟩,A3,H⟩:=bs H;(try dsimp only at H)
 simp only [Option.some.injEq,Prod.mk.injEq] at H;obtain ⟨rfl,rfl⟩:=H;go_enter Tryz.func46,Tryz.ntmps46;go_wp2_with (first|((with_reducible refine Qbl (N:=2) rfl ?_);refine Qdf ?hg (N:=2) ?hd (cs:= #[.slice none 0 0]) (t:=26) ?hr ?_;(case hd=>rfl);(case hg=>rfl);(case hr=>first|(go_simp;done)|(go_simp;rfl));intro gb615 hg w4 hbox hb;have BK615:=Aside0.mk (hbox);have GW615:=Aside0.mk ((by rw [hg];exact (Qd (by repeat (first|(with_reducible first|exact HB.out|apply Qj|apply Qi|apply Qm)|exact HB.out))):w.heap.size≤gb615));have GE615:=GW615;replace HB:=Aside0.mk (Qc (by repeat (first|(with_reducible first|exact HB.out|apply Qj|apply Qi|apply Qm)|exact HB.out)) hb);clear hb hbox hg)|((with_reducible refine Qbl (N:=7) rfl ?_);refine Qdf ?hg (N:=7) ?hd (cs:= #[.slice A0 l0.length c0, .int .i64 0, .int .u64 0]) (t:=94) ?hr ?_;(case hd=>rfl);(case hg=>rfl);(case hr=>first|(go_simp;done)|(go_simp;rfl));intro gb616 hg w5 hbox hb;have HI616:=Aside0.mk ((⟨_,_,hbox,(by rw [hg];exact (Qd (by repeat (first|(with_reducible first|exact HB.out|apply Qj|apply Qi|apply Qm|refine Ql ?_ GE615.out)|exact HB.out))):w.heap.size≤gb616),HR0.out⟩:Qa w _ gb616 l0 0 0));have GW616:=Aside0.mk ((by rw [hg];exact (Qd (by repeat (first|(with_reducible first|exact HB.out|apply Qj|apply Qi|apply Qm|refine Ql ?_ GE615.out)|exact HB.out))):w.heap.size≤gb616));have GE616:=GW616;replace HB:=Aside0.mk (Qc (by repeat (first|(with_reducible first|exact HB.out|apply Qj|apply Qi|apply Qm|refine Ql ?_ GE615.out)|exact HB.out)) hb);have NB615_616:=Aside0.mk ((by rw [hg];exact Nat.ne_of_lt (Qt (g:=gb615) (o:= .cells #[.slice none 0 0] 26 (0,0)) (by (with_reducible repeat (first|refine Qq ?_ _|refine Qs ?_|refine Qp ?_ _));exact BK615.out)):gb615≠gb616));have NB616_615:=Aside0.mk ((by rw [hg];exact Nat.ne_of_gt (Qt (g:=gb615) (o:= .cells #[.slice none 0 0] 26 (0,0)) (by (with_reducible repeat (first|refine Qq ?_ _|refine Qs ?_|refine Qp ?_ _));exact BK615.out)):gb616≠gb615));replace BK615:=Aside0.mk (Qb (g:=gb615) (o:= .cells #[.slice none 0 0] 26 (0,0)) (by (with_reducible repeat (first|refine Qq ?_ _|refine Qs ?_|refine Qp ?_ _));exact BK615.out) hb);clear hb hbox hg)|((with_reducible refine Qcf (f:=181) rfl ?_);refine Qdp (some 9) rfl rfl Tryz.func181 (by kernel_rfl) rfl #[.pointer (some ⟨gb616,0,none⟩), .int .i64 7] rfl (by (try simp only [List.map_toArray,List.map_cons,List.map_nil]);first|done|rfl|(simp only [List.length_drop,List.length_take];rfl)) ?_;(with_reducible refine (Qw.calls k gb616 l0 0 0 7 t617 t620 t621 w _ ?side1 ?side2 A2.out).mono ?_);(case side1=>repeat (first|(with_reducible first|exact HI616.out|apply Qa.alloc|apply Qa.drewN|apply Qa.drew|apply Qa.set_1|apply Qa.set_2|refine Qa.far ?_ NB616_615.out _)|exact HI616.out));(case side2=>repeat (first|(with_reducible first|exact HB.out|apply Qj|apply Qi|apply Qm|refine Ql ?_ (Qa.ge HI616.out)|refine Ql ?_ GE615.out)|exact HB.out));rintro e w6 ⟨v618,rfl,ho0,hi,hb,hk⟩;refine ⟨_,rfl,?_⟩;replace BK615:=Aside0.mk (Qh.blk hk (g':=gb615) (o:= .cells #[.slice none 0 0] 26 (0,0)) (by (with_reducible repeat (first|refine Qq ?_ _|refine Qs ?_|refine Qp ?_ _));exact BK615.out) NB615_616.out (by simp));have HO619:=Aside0.mk (Kd.R_lower ho0 (Qd (by repeat (first|(with_reducible first|exact HB.out|apply Qj|apply Qi|apply Qm|refine Ql ?_ (Qa.ge HI616.out)|refine Ql ?_ GE615.out)|exact HB.out))));replace HB:=Aside0.mk (hb);replace HI616:=Aside0.mk (hi);(try clear hb);(try clear hb2);(try clear hk);(try clear hi);(try clear ho0))|((with_reducible refine Qbl (N:=11) rfl ?_);refine Kd.R_lit (Kd.int .i64) _ 3 ?hg (N:=11) ?hd (xs:=([0,1,2,3,4,5,6,12,1000,1001,(-1)] :List Int)) (inner:= [.int .i64 0, .int .i64 1, .int .i64 2, .int .i64 3, .int .i64 4, .int .i64 5, .int .i64 6, .int .i64 12, .int .i64 1000, .int .i64 1001, .int .i64 (-1)]) (ok:=fun _=>True) (okp:=fun _=>True) ?hr ?hp (fun _ hk=>hk) trivial (Below.refl _ _) (Nat.le_refl _) (by simp) ?_;(case hd=>rfl);(case hg=>rfl);(case hr=>first|(go_simp;done)|(go_simp;rfl));(case hp=>exact (Reps.one (show Kd.M (Kd.int .i64) _ _ _ 0 [.int .i64 0] from rfl) (Reps.one (show Kd.M (Kd.int .i64) _ _ _ 1 [.int .i64 1] from rfl) (Reps.one (show Kd.M (Kd.int .i64) _ _ _ 2 [.int .i64 2] from rfl) (Reps.one (show Kd.M (Kd.int .i64) _ _ _ 3 [.int .i64 3] from rfl) (Reps.one (show Kd.M (Kd.int .i64) _ _ _ 4 [.int .i64 4] from rfl) (Reps.one (show Kd.M (Kd.int .i64) _ _ _ 5 [.int .i64 5] from rfl) (Reps.one (show Kd.M (Kd.int .i64) _ _ _ 6 [.int .i64 6] from rfl) (Reps.one (show Kd.M (Kd.int .i64) _ _ _ 12 [.int .i64 12] from rfl) (Reps.one (show Kd.M (Kd.int .i64) _ _ _ 1000 [.int .i64 1000] from rfl) (Reps.one (show Kd.M (Kd.int .i64) _ _ _ 1001 [.int .i64 1001] from rfl) (Reps.one (show Kd.M (Kd.int .i64) _ _ _ (-1) [.int .i64 (-1)] from rfl) (Reps.none _ _)))))))))))));intro v623 w7 ho8 hb hg_ hnew_;clear hg_ hnew_;(first|rw [←Ny622.out] at ho8|(simp only [Int.reduceToNat] at ho8;rw [←Ny622.out] at ho8));have HO624:=Aside0.mk (Kd.R_lower (Kd.R_new' ho8 (Kd.R_lt (by (with_reducible repeat (first|apply Kd.R_alloc|apply Kd.R_drewN|apply Kd.R_drew));exact HO619.out))) (Qd (by repeat (first|(with_reducible first|exact HB.out|apply Qj|apply Qi|apply Qm|refine Ql ?_ (Qa.ge HI616.out)|refine Ql ?_ GE615.out)|exact HB.out))));replace HO619:=Aside0.mk (Kd.R_elder' (by (with_reducible repeat (first|apply Kd.R_alloc|apply Kd.R_drewN|apply Kd.R_drew));exact HO619.out) (Kd.R_base ho8) hb);replace BK615:=Aside0.mk (Qb (g:=gb615) (o:= .cells #[.slice none 0 0] 26 (0,0)) (by (with_reducible repeat (first|refine Qq ?_ _|refine Qs ?_|refine Qp ?_ _));exact BK615.out) hb);replace HB:=Aside0.mk (Qc (by repeat (first|(with_reducible first|exact HB.out|apply Qj|apply Qi|apply Qm|refine Ql ?_ (Qa.ge HI616.out)|refine Ql ?_ GE615.out)|exact HB.out)) hb);replace HI616:=Aside0.mk (Qa.below (by repeat (first|(with_reducible first|exact HI616.out|apply Qa.alloc|apply Qa.drewN|apply Qa.drew|apply Qa.set_1|apply Qa.set_2|refine Qa.far ?_ NB616_615.out _)|exact HI616.out)) hb);clear hb ho8;obtain ⟨Ao9,co9,eo9⟩:=Kd.R_slice HO624.out;subst eo9)|((with_reducible refine Qcf (f:=190) rfl ?_);refine Qdp (some 12) rfl rfl Tryz.func190 (by kernel_rfl) rfl #[.pointer (some ⟨gb616,0,none⟩), .slice Ao9 y622.length co9] rfl (by (try simp only [List.map_toArray,List.map_cons,List.map_nil]);first|done|rfl|(simp only [List.length_drop,List.length_take];rfl)) ?_;(with_reducible refine (Qcj.calls gb616 l0 t620 t621 _ _ y622 t625 t626 t627 w _ ?side1 ?side2 ?side3 ?side4 ?side5 A3.out).mono ?_);(case side1=>repeat (first|(with_reducible first|exact HI616.out|apply Qa.alloc|apply Qa.drewN|apply Qa.drew|apply Qa.set_1|apply Qa.set_2|refine Qa.far ?_ NB616_615.out _)|exact HI616.out));(case side2=>repeat (first|(with_reducible first|exact HB.out|apply Qj|apply Qi|apply Qm|refine Ql ?_ (Qa.ge HI616.out)|refine Ql ?_ GE615.out)|exact HB.out));(case side3=>repeat (first|exact (Kd.R_reads' HO624.out).2.2|(with_reducible refine Kd.C_alloc ?_ _)|(with_reducible refine Kd.C_drewN ?_ _)|(with_reducible refine Kd.C_drew ?_)));(case side4=>exact (Kd.R_reads' HO624.out).2.1);(case side5=>exact Qen (Qa.own_ne HI616.out HO624.out (by decide)));rintro e w10 ⟨rfl,hi,hb,hk⟩;refine ⟨_,rfl,?_⟩;replace BK615:=Aside0.mk (Qh.blk hk (g':=gb615) (o:= .cells #[.slice none 0 0] 26 (0,0)) (by (with_reducible repeat (first|refine Qq ?_ _|refine Qs ?_|refine Qp ?_ _));exact BK615.out) NB615_616.out (by simp));replace HO619:=Aside0.mk (Kd.R_mono (Kd.R_keep (Qa.apart (show Qa w _ gb616 l0 t620 t621 from by repeat (first|(with_reducible first|exact HI616.out|apply Qa.alloc|apply Qa.drewN|apply Qa.drew|apply Qa.set_1|apply Qa.set_2|refine Qa.far ?_ NB616_615.out _)|exact HI616.out)) (by (with_reducible repeat (first|apply Kd.R_alloc|apply Kd.R_drewN|apply Kd.R_drew));exact HO619.out) (by decide)) hk (fun _ h=>h.2)) (fun _ h=>h.1));replace HO624:=Aside0.mk (Kd.R_mono (Kd.R_keep (Qa.apart (show Qa w _ gb616 l0 t620 t621 from by repeat (first|(with_reducible first|exact HI616.out|apply Qa.alloc|apply Qa.drewN|apply Qa.drew|apply Qa.set_1|apply Qa.set_2|refine Qa.far ?_ NB616_615.out _)|exact HI616.out)) (by (with_reducible repeat (first|apply Kd.R_alloc|apply Kd.R_drewN|apply Kd.R_drew));exact HO624.out) (by decide)) hk (fun _ h=>h.2)) (fun _ h=>h.1));replace HB:=Aside0.mk (hb);replace HI616:=Aside0.mk (hi);(try clear hb);(try clear hb2);(try clear hk);(try clear hi);obtain ⟨Ao11,co11,eo11⟩:=Kd.R_slice HO619.out;subst eo11;have hnb12:=NB615_616.out;have hnc12:=NB616_615.out;have hcz13_0:w10.cell? ⟨gb615,0,none⟩=some (.slice none 0 0):=(Qb6 BK615.out 0).trans rfl;have hfz13_0:=Qe BK615.out 0))
 refine bodyPost_ret (Qd0 rfl _ _ gb615 26 #[.slice Ao11 t617.length co11] (0,0) _ rfl (by (with_reducible repeat (first|refine Qq ?_ _|refine Qs ?_|refine Qp ?_ _));refine Qec (cs:= #[.slice none 0 0]) ?_ 0 _ rfl;(with_reducible repeat (first|refine Qq ?_ _|refine Qs ?_|refine Qp ?_ _));exact BK615.out) Tryz.underlying26 rfl (by kernel_rfl)) rfl ?_;exact ⟨_,by first|rfl|(simp [Qf,Qg] <;>rfl)|(simp [*,Qf,Qg] <;>rfl),by (with_reducible repeat (first|apply Kd.R_alloc|apply Kd.R_drewN|apply Kd.R_drew));exact Kd.R_mono (Kd.R_far (p:=⟨gb615,0,none⟩) (Kd.R_types HO619.out BK615.out (by decide)) (fun _ hk=>hk.2) (.slice Ao11 t617.length co11)) (fun _ hk=>trivial),(Qa.vB HB)⟩
end Go.Proofs.YtkgngggppcmpfaaGreat.L
end
section
namespace Go.Proofs.YtkgngggppcmpfaaGreat.L
open Go.RowKit Go.Proofs.YtkgngggppcmpfaaGreatW.PrintWords Go.Proofs.YtkgngggppcmpfaaGreatW.PrintLast Go.Proofs.YtkgngggppcmpfaaGreatW.PrintMore
attribute [local go_sem] Q2 Q4 Qbd Qbe Qz Q0 Q3 Q5
set_option linter.unusedVariables false
set_option linter.unusedSimpArgs false
def Qck.l0 : Nat → Int → Int → List Int → Int → Int → Option (Int)
 |0,_,_,_,_,_=>none
 |k+1,x1,x5,x8,x9,x10=>if x10<x9 then (if 0≤x10 then (if x10<(x8.length:Int) then (if (rd x8 x10)=0 then (none) else (if (Int.tmod x1 (rd x8 x10))=0 then (Qck.l0 k x1 (wrap64 (x5+(rd x8 x10))) x8 x9 (wrap64 (x10+1))) else (Qck.l0 k x1 x5 x8 x9 (wrap64 (x10+1))))) else (none)) else (none)) else (some x5)
def Qck.f (k : Nat) (l0 : List Int) (a1 : Int) : Option (Int) := Qck.l0 k a1 0 l0 (l0.length : Int) 0
theorem Qck.mono_l : ∀ k, (∀ y0 y1 y2 y3 y4, LeO (Qck.l0 k y0 y1 y2 y3 y4) (Qck.l0 (k + 1) y0 y1 y2 y3 y4))
 |0=>fun _ _ _ _ _ r h=>by simp [Qck.l0] at h
 |k+1=>by
  have ih0:=Qck.mono_l k
  ·
   intro y0 y1 y2 y3 y4;unfold Qck.l0
   repeat' first
   |(with_reducible exact ih0 _ _ _ _ _)
   |(with_reducible exact LeO.refl _)
   |(with_reducible exact LeO.none _)
   |(with_reducible refine LeO.ite ?_ ?_)
   |(with_reducible refine LeO.bind ?_ (fun _=> ?_))
   |exact ih0 _ _ _ _ _
   |exact LeO.none _
   |refine LeO.ite ?_ ?_
   |refine LeO.bind ?_ (fun _=> ?_)
theorem Qck.mono : ∀ a0 a1 k, LeO (Qck.f k a0 a1) (Qck.f (k + 1) a0 a1) := by
 intro a0 a1 k;have ih0:=Qck.mono_l k;unfold Qck.f
 repeat' (with_reducible first|apply ih0|exact LeO.refl _|exact LeO.none _|refine LeO.ite ?_ ?_|refine LeO.bind ?_ (fun _=> ?_))
set_option maxHeartbeats 8000000 in
set_option maxRecDepth 100000 in
theorem Qck.calls (k : Nat) (A0 : Option Addr) (c0 : Nat) (l0 : List Int) (a1 : Int) (r : Int) (w : World) (hr0 : Kd.C (Kd.int .i64) w A0 l0.length l0) (hc0 : l0.length ≤ c0) (h : Qck.f k l0 a1 = some r) :
 Calls Tryz.prog 191 #[.slice A0 l0.length c0, .int .i64 a1] w fun e w'=>e= .returned (.int .i64 r)∧Drawn0 w w':=by
 have HR0:=Aside0.mk hr0;have HC0:=Aside0.mk hc0;clear hr0 hc0;have H:(Qck.l0 k a1 0 l0 (l0.length:Int) 0)=some r:=h;clear h;have H':=Aside0.mk H;clear H;go_enter Tryz.func191,Tryz.ntmps191;go_wp2
 go_loopg [5,10] k (fun kq v5 v10 w'=> ∃ (x5_1:Int) (x10_1:Int),v5= .int .i64 x5_1∧v10= .int .i64 x10_1∧Aside0 (Qck.l0 kq a1 x5_1 l0 (l0.length:Int) x10_1=some r)∧Aside0 (kq≤k)∧Drawn0 w w')
 case atStart=>exact ⟨(0),(0),(by first|rfl|(simp;done)|(simp [*];done)),(by first|rfl|(simp;done)|(simp [*];done)),H',⟨Nat.le_refl _⟩,by repeat (first|exact Drawn0.refl _|apply Drawn0.step)⟩
 case round=>
  clear H'
  skip
  obtain ⟨x5_1,x10_1,rfl,rfl,HA,HK1,⟨m1,rfl⟩⟩:=hrel;cases gk with
  |zero=>exact absurd HA.out (by simp [Qck.l0])
  |succ k1=>
   have H:=HA.out;clear HA;simp only [Qck.l0] at H
   by_cases c3:x10_1<(l0.length:Int)
   ·
    rw [if_pos c3] at H;have c3b0:=decide_eq_true c3;clear c3
    by_cases c4:0≤x10_1
    ·
     rw [if_pos c4] at H;have c4b0:=decide_eq_true c4;clear c4
     by_cases c5:x10_1<(l0.length:Int)
     ·
      rw [if_pos c5] at H;have c5b0:=decide_eq_true c5;clear c5
      by_cases c6:(rd l0 x10_1)=0
      ·
       rw [if_pos c6] at H;exact absurd H (by simp)
      ·
       rw [if_neg c6] at H;have c6b0:((rd l0 x10_1)==0)=false:=beq_eq_false_iff_ne.mpr c6;have c6b1:((rd l0 x10_1) !=0)=true:=bne_iff_ne.mpr c6
       by_cases c7:(Int.tmod a1 (rd l0 x10_1))=0
       ·
        rw [if_pos c7] at H;have c7b0:((Int.tmod a1 (rd l0 x10_1))==0)=true:=beq_iff_eq.mpr c7;have c7b1:((Int.tmod a1 (rd l0 x10_1)) !=0)=false:=bne_eq_false_iff_eq.mpr c7;clear c7;have H':=Aside0.mk H;clear H;have p628:0≤(x10_1:Int):=of_decide_eq_true (by first|(with_reducible assumption)|assumption);have q628:x10_1<(l0.length:Int):=of_decide_eq_true (by first|(with_reducible assumption)|assumption);obtain ⟨ad628,e628,hx628_0⟩:=Kd.at_int HR0.out x10_1 p628 q628;cases e628;replace p628:=eq_true p628;replace q628:=eq_true q628;go_wp2;go_roundg k1
        case measure=>have:=HK1.out;omega
        case rel=>exact ⟨(wrap64 (x5_1+(rd l0 x10_1))),(wrap64 (x10_1+1)),(by first|rfl|(simp;done)|(simp [*];done)),(by first|rfl|(simp;done)|(simp [*];done)),H',⟨by have:=HK1.out;omega⟩,by repeat (first|exact Drawn0.refl _|apply Drawn0.step)⟩
       ·
        rw [if_neg c7] at H;have c7b0:((Int.tmod a1 (rd l0 x10_1))==0)=false:=beq_eq_false_iff_ne.mpr c7;have c7b1:((Int.tmod a1 (rd l0 x10_1)) !=0)=true:=bne_iff_ne.mpr c7;have H':=Aside0.mk H;clear H;have p628:0≤(x10_1:Int):=of_decide_eq_true (by first|(with_reducible assumption)|assumption);have q628:x10_1<(l0.length:Int):=of_decide_eq_true (by first|(with_reducible assumption)|assumption);obtain ⟨ad628,e628,hx628_0⟩:=Kd.at_int HR0.out x10_1 p628 q628;cases e628;replace p628:=eq_true p628;replace q628:=eq_true q628;go_wp2;go_roundg k1
        case measure=>have:=HK1.out;omega
        case rel=>exact ⟨(x5_1),(wrap64 (x10_1+1)),(by first|rfl|(simp;done)|(simp [*];done)),(by first|rfl|(simp;done)|(simp [*];done)),H',⟨by have:=HK1.out;omega⟩,by repeat (first|exact Drawn0.refl _|apply Drawn0.step)⟩
     ·
      rw [if_neg c5] at H;exact absurd H (by simp)
    ·
     rw [if_neg c4] at H;exact absurd H (by simp)
   ·
    rw [if_neg c3] at H;have c3b0:=decide_eq_false c3;clear c3;obtain rfl:=Option.some.inj H;go_wp2
    go_ret
    exact ⟨by first|rfl|(simp;done)|(simp [*];done),by repeat (first|exact Drawn0.refl _|apply Drawn0.step)⟩
end Go.Proofs.YtkgngggppcmpfaaGreat.L
end
section
namespace Go.Proofs.YtkgngggppcmpfaaGreat.L
open Go.RowKit Go.Proofs.YtkgngggppcmpfaaGreatW.PrintWords Go.Proofs.YtkgngggppcmpfaaGreatW.PrintLast Go.Proofs.YtkgngggppcmpfaaGreatW.PrintMore Go.Proofs.YtkgngggppcmpfaaGreat.X
attribute [local go_sem] Q2 Q4 Qbd Qbe Qz Q0 Q3 Q5
set_option linter.unusedVariables false
set_option linter.unusedSimpArgs false
def Qbq.j0 : Nat → Int → Bool → List Int → Option (Int × Bool)
 |0,_,_,_=>none
 |k+1,x1,x13,x630000=>if x13=true then (some (0,false)) else ((Qbm.f k x630000).bind fun t632=>((Qba.f k t632).bind fun t635=>((Qck.f k t635 x1).bind fun t638=>(some (t638,true)))))
def Qbq.f (k : Nat) (l0_0 : List Int) (a1 : Int) : Option (Int × Bool) := (Qy.f k l0_0).bind fun t630 => (if t630 = true then ((Qcs.f a1 0 1000).bind fun t631 => (Qbq.j0 k a1 (!t631) l0_0)) else (Qbq.j0 k a1 true l0_0))
theorem Qbq.mono_l : ∀ k, (∀ y0 y1 y2, LeO (Qbq.j0 k y0 y1 y2) (Qbq.j0 (k + 1) y0 y1 y2))
 |0=>fun _ _ _ r h=>by simp [Qbq.j0] at h
 |k+1=>by
  have ih0:=Qbq.mono_l k
  ·
   intro y0 y1 y2;unfold Qbq.j0
   repeat' first
   |(with_reducible exact ih0 _ _ _)
   |(with_reducible exact Qy.mono _ _)
   |(with_reducible exact Qbm.mono _ _)
   |(with_reducible exact Qck.mono _ _ _)
   |(with_reducible exact Qba.mono _ _)
   |(with_reducible exact LeO.refl _)
   |(with_reducible exact LeO.none _)
   |(with_reducible refine LeO.ite ?_ ?_)
   |(with_reducible refine LeO.bind ?_ (fun _=> ?_))
   |exact ih0 _ _ _
   |exact Qy.mono _ _
   |exact Qbm.mono _ _
   |exact Qck.mono _ _ _
   |exact Qba.mono _ _
   |exact LeO.none _
   |refine LeO.ite ?_ ?_
   |refine LeO.bind ?_ (fun _=> ?_)
theorem Qbq.mono : ∀ a0 a1 k, LeO (Qbq.f k a0 a1) (Qbq.f (k + 1) a0 a1) := by
 intro a0 a1 k;have ih0:=Qbq.mono_l k;unfold Qbq.f
 repeat' (with_reducible first|apply ih0|apply Qy.mono|apply Qbm.mono|apply Qck.mono|apply Qba.mono|exact LeO.refl _|exact LeO.none _|refine LeO.ite ?_ ?_|refine LeO.bind ?_ (fun _=> ?_))
set_option maxHeartbeats 8000000 in
set_option maxRecDepth 100000 in
theorem Qbq.calls (k : Nat) (A0_0 : Option Addr) (c0_0 : Nat) (l0_0 : List Int) (a1 : Int) (r1 : Int) (r2 : Bool) (w : World) (hr0_0 : Kd.C (Kd.int .i64) w A0_0 l0_0.length l0_0) (hc0_0 : l0_0.length ≤ c0_0) (h : Qbq.f k l0_0 a1 = some (r1, r2)) :
 Calls Tryz.prog 47 #[.agg #[.slice A0_0 l0_0.length c0_0], .int .i64 a1] w fun e w'=>e= .returned (.tuple #[.int .i64 r1, .bool r2])∧Below w.heap.size w w':=by
 have hu26:=Tryz.underlying26;have HR0_0:=Aside0.mk hr0_0;have HC0_0:=Aside0.mk hc0_0;clear hr0_0 hc0_0;have HB:=Aside0.mk (Below.refl w.heap.size w);have H:((Qy.f k l0_0).bind fun t630=>(if t630=true then ((Qcs.f a1 0 1000).bind fun t631=>(Qbq.j0 k a1 (!t631) l0_0)) else (Qbq.j0 k a1 true l0_0)))=some (r1,r2):=h;clear h;have HC3:=Aside0.mk H;clear H;go_enter Tryz.func47,Tryz.ntmps47;go_upto_region 1 with (first|(refine bE (N:=2) (cs:= #[.slice A0_0 l0_0.length c0_0]) (t:=26) ?_;intro gb629 hg w4 hbox hb;have BK629:=Aside0.mk (hbox);have GW629:=Aside0.mk ((by rw [hg];exact (Qd (uB HB)):w.heap.size≤gb629));have GE629:=GW629;replace HB:=Aside0.mk (Qc (uB HB) hb);clear hb hbox hg))
 (try simp only [Act.put,List.setIfInBounds_toArray,List.set_cons_zero,List.set_cons_succ])
 go_cut [13] (fun v13 wc=> ∃ (kq:Nat) (x13_2:Bool),v13= .bool x13_2∧Aside0 (Qbq.j0 kq a1 x13_2 l0_0=some (r1,r2))∧Aside0 (kq≤k)∧Aside0 (wc.heap[gb629]? =some (.cells #[(.slice A0_0 l0_0.length c0_0)] 26 (0,0)))∧Aside0 (Below w.heap.size w wc))
 case first=>
  have H:=HC3.out;clear HC3;obtain ⟨t630,A5,H⟩:=bs H;(try dsimp only at H)
  by_cases c6:t630=true
  ·
   subst c6;rw [if_pos rfl] at H;obtain ⟨t631,A7,H⟩:=bs H;(try dsimp only at H)
   have H':=Aside0.mk H;clear H;have hcz8_0:=bC BK629;have hfz8_0:=Qe BK629.out 0;go_wp2_with (first|(refine gA (some 7) Tryz.func178 #[.agg #[.slice A0_0 l0_0.length c0_0]] ?_;(with_reducible refine (Qy.calls k _ _ l0_0 true _ (uD HR0_0 HB) HC0_0.out A5.out).mono ?_);rintro e w9 ⟨rfl,hb⟩;refine ⟨_,rfl,?_⟩;replace BK629:=Aside0.mk (Qb (uK BK629) hb);replace HB:=Aside0.mk (Qc (vB HB) hb);(try clear hb))|(go_at_call 159;(with_reducible refine (Qcs.calls a1 0 1000 t631 _ A7.out).mono ?_);rintro e w' ⟨rfl,⟨nd,rfl⟩⟩))
   go_meet
   case rel=>exact ⟨_,(!t631),(by first|rfl|(simp;done)|(simp [*];done)),H',⟨by first|omega|exact Nat.le_refl _⟩,⟨uK BK629⟩,⟨(vB HB)⟩⟩
  ·
   replace c6:=Bool.eq_false_iff.mpr c6;subst c6;rw [if_neg (show ¬ (false=true) by decide)] at H;have H':=Aside0.mk H;clear H;have hcz10_0:=bC BK629;have hfz10_0:=Qe BK629.out 0;go_wp2_with (first|(refine gA (some 7) Tryz.func178 #[.agg #[.slice A0_0 l0_0.length c0_0]] ?_;(with_reducible refine (Qy.calls k _ _ l0_0 false _ (uD HR0_0 HB) HC0_0.out A5.out).mono ?_);rintro e w11 ⟨rfl,hb⟩;refine ⟨_,rfl,?_⟩;replace BK629:=Aside0.mk (Qb (uK BK629) hb);replace HB:=Aside0.mk (Qc (vB HB) hb);(try clear hb)))
   go_meet
   case rel=>exact ⟨_,(true),(by first|rfl|(simp;done)|(simp [*];done)),H',⟨by first|omega|exact Nat.le_refl _⟩,⟨uK BK629⟩,⟨(vB HB)⟩⟩
 case rest=>
  clear HC3
  skip
  obtain ⟨kq,x13_2,rfl,HA,HJ2,BK629,HB⟩:=hcut;cases kq with
  |zero=>exact absurd HA.out (by simp [Qbq.j0])
  |succ kj2=>
   have H:=HA.out;clear HA;simp only [Qbq.j0] at H
   by_cases c12:x13_2=true
   ·
    subst c12;rw [if_pos rfl] at H;simp only [Option.some.injEq,Prod.mk.injEq] at H;obtain ⟨rfl,rfl⟩:=H;go_wp2
    go_ret2
    exact ⟨by first|rfl|(simp [Qf,Qg] <;>rfl)|(simp [*,Qf,Qg] <;>rfl),(vB HB)⟩
   ·
    replace c12:=Bool.eq_false_iff.mpr c12;subst c12;rw [if_neg (show ¬ (false=true) by decide)] at H;obtain ⟨t632,A13,H⟩:=bs H;(try dsimp only at H)
    obtain ⟨t635,A14,H⟩:=bs H;(try dsimp only at H)
    obtain ⟨t638,A15,H⟩:=bs H;(try dsimp only at H)
    simp only [Option.some.injEq,Prod.mk.injEq] at H;obtain ⟨rfl,rfl⟩:=H;have hcz16_0:=bC BK629;have hfz16_0:=Qe BK629.out 0;go_wp2_with (first|(refine gA (some 15) Tryz.func182 #[.agg #[.slice A0_0 l0_0.length c0_0]] ?_;(with_reducible refine (Qbm.calls kj2 _ _ l0_0 t632 _ (uD HR0_0 HB) HC0_0.out A13.out).mono ?_);rintro e w17 ⟨v633,rfl,ho0,hb⟩;refine ⟨_,rfl,?_⟩;have HO634:=Aside0.mk (Kd.S_lower ho0 (Qd (vB HB)));replace BK629:=Aside0.mk (Qb (uK BK629) hb);replace HB:=Aside0.mk (Qc (vB HB) hb);(try clear hb ho0);obtain ⟨Ao18,co18,eo18⟩:=Kd.S_slice HO634.out;subst eo18)|(refine gA (some 16) Tryz.func185 #[.slice Ao18 t632.length co18] ?_;(with_reducible refine (Qba.calls kj2 _ _ t632 t635 _ ?side1 ?side2 A14.out).mono ?_);(case side1=>repeat (first|exact (Kd.S_reads' HO634.out).2.2|(with_reducible refine Kd.C_alloc ?_ _)|(with_reducible refine Kd.C_drewN ?_ _)|(with_reducible refine Kd.C_drew ?_)));(case side2=>exact (Kd.S_reads' HO634.out).2.1);rintro e w19 ⟨v636,rfl,ho0,hb⟩;refine ⟨_,rfl,?_⟩;replace HO634:=Aside0.mk (Kd.S_elder' (uS HO634) (Kd.R_base ho0) hb);have HO637:=Aside0.mk (Kd.R_lower ho0 (Qd (vB HB)));replace BK629:=Aside0.mk (Qb (uK BK629) hb);replace HB:=Aside0.mk (Qc (vB HB) hb);(try clear hb ho0);obtain ⟨Ao20,co20,eo20⟩:=Kd.R_slice HO637.out;subst eo20)|(refine gA (some 18) Tryz.func191 #[.slice Ao20 t635.length co20, .int .i64 a1] ?_;(with_reducible refine (Qck.calls kj2 _ _ t635 a1 t638 _ (uE HO637) ?side2 A15.out).mono ?_);(case side2=>exact (Kd.R_reads' HO637.out).2.1);rintro e w' ⟨rfl,⟨nd,rfl⟩⟩;refine ⟨_,rfl,?_⟩))
    go_ret2
    exact ⟨by first|rfl|(simp [Qf,Qg] <;>rfl)|(simp [*,Qf,Qg] <;>rfl),(vB HB)⟩
end Go.Proofs.YtkgngggppcmpfaaGreat.L
end
