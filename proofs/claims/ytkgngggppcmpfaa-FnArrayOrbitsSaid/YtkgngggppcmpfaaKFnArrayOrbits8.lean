/- Laws about the given program: the law FnArrayOrbits answers true for every input that its row lets in; no condition is added to the given statement. Contracts of the Go functions that it reaches, and the plain proof over lists. -/
import Derived.Test.YtkgngggppcmpfaaWFnArrayOrbits0
import Derived.Test.YtkgngggppcmpfaaKFnArrayOrbits0
import Derived.Test.YtkgngggppcmpfaaKFnArrayOrbits1
import Derived.Test.YtkgngggppcmpfaaKFnArrayOrbits2
import Derived.Test.YtkgngggppcmpfaaKFnArrayOrbits3
import Derived.Test.YtkgngggppcmpfaaKFnArrayOrbits4
import Derived.Test.YtkgngggppcmpfaaKFnArrayOrbits5
import Derived.Test.YtkgngggppcmpfaaKFnArrayOrbits6
import Derived.Test.YtkgngggppcmpfaaKFnArrayOrbits7
section
namespace Go.Proofs.Ytkgngggppcmpfaa.L
open Go.RowKit Go.Proofs.YtkgngggppcmpfaaW.PrintWords Go.Proofs.YtkgngggppcmpfaaW.PrintLast Go.Proofs.YtkgngggppcmpfaaW.PrintMore
attribute [local go_sem] Qbj Qbi Qbu Qbt Qbd Qbc Qbk Qbl
set_option linter.unusedVariables false
variable [Fn2]
set_option linter.unusedSimpArgs false
mutual
def Qb0.l0 : Nat → Int → Int → List Int → Option (List Int)
 |0,_,_,_=>none
 |k+1,x11,x12,x549000=>if x12<x11 then (Qb0.l1 k x12 x11 x12 x12 0 x549000) else (some x549000)
def Qb0.l1 : Nat → Int → Int → Int → Int → Int → List Int → Option (List Int)
 |0,_,_,_,_,_,_=>none
 |k+1,x6,x11,x12,x15,x16,x549000=>if x16<x15 then ((Qfb.f x16 x6).bind fun t549=>(if t549=true then (if 0≤x6 then (if x6<(x549000.length:Int) then (if 0≤x16 then (Qb0.l1 k x6 x11 x12 x15 (wrap64 (x16+1)) (x549000.set (x6:Int).toNat (Go.bits .or .i64 (rd x549000 x6) (shl .i64 1 x16)))) else (none)) else (none)) else (none)) else (Qb0.l1 k x6 x11 x12 x15 (wrap64 (x16+1)) x549000))) else (Qb0.l0 k x11 (wrap64 (x12+1)) x549000)
end
def Qb0.f (k : Nat) (a0 : Int) (a1 : Int) : Option (List Int) := if 0 ≤ a0 then (if (a0 : Int).toNat ≤ 35184372088832 then (Qb0.l0 k a0 0 (List.replicate (a0 : Int).toNat 0)) else (none)) else (none)
theorem Qb0.mono_l : ∀ k, (∀ y0 y1 y2, LeO (Qb0.l0 k y0 y1 y2) (Qb0.l0 (k + 1) y0 y1 y2)) ∧ (∀ y0 y1 y2 y3 y4 y5, LeO (Qb0.l1 k y0 y1 y2 y3 y4 y5) (Qb0.l1 (k + 1) y0 y1 y2 y3 y4 y5))
 |0=>⟨fun _ _ _ r h=>by simp [Qb0.l0] at h,fun _ _ _ _ _ _ r h=>by simp [Qb0.l1] at h⟩
 |k+1=>by
  obtain ⟨ih0,ih1⟩:=Qb0.mono_l k;refine ⟨?_,?_⟩
  ·
   intro y0 y1 y2;unfold Qb0.l0
   repeat' first
   |(with_reducible exact ih0 _ _ _)
   |(with_reducible exact ih1 _ _ _ _ _ _)
   |(with_reducible exact LeO.refl _)
   |(with_reducible exact LeO.none _)
   |(with_reducible refine LeO.ite ?_ ?_)
   |(with_reducible refine LeO.bind ?_ (fun _=> ?_))
   |exact ih0 _ _ _
   |exact ih1 _ _ _ _ _ _
   |exact LeO.none _
   |refine LeO.ite ?_ ?_
   |refine LeO.bind ?_ (fun _=> ?_)
  ·
   intro y0 y1 y2 y3 y4 y5;unfold Qb0.l1
   repeat' first
   |(with_reducible exact ih0 _ _ _)
   |(with_reducible exact ih1 _ _ _ _ _ _)
   |(with_reducible exact LeO.refl _)
   |(with_reducible exact LeO.none _)
   |(with_reducible refine LeO.ite ?_ ?_)
   |(with_reducible refine LeO.bind ?_ (fun _=> ?_))
   |exact ih0 _ _ _
   |exact ih1 _ _ _ _ _ _
   |exact LeO.none _
   |refine LeO.ite ?_ ?_
   |refine LeO.bind ?_ (fun _=> ?_)
theorem Qb0.mono : ∀ a0 a1 k, LeO (Qb0.f k a0 a1) (Qb0.f (k + 1) a0 a1) := by
 intro a0 a1 k;obtain ⟨ih0,ih1⟩:=Qb0.mono_l k;unfold Qb0.f
 repeat' first
  |(with_reducible exact ih0 _ _ _)
  |(with_reducible exact ih1 _ _ _ _ _ _)
  |(with_reducible exact LeO.refl _)
  |(with_reducible exact LeO.none _)
  |(with_reducible refine LeO.ite ?_ ?_)
  |(with_reducible refine LeO.bind ?_ (fun _=> ?_))
  |exact ih0 _ _ _
  |exact ih1 _ _ _ _ _ _
  |exact LeO.none _
  |refine LeO.ite ?_ ?_
  |refine LeO.bind ?_ (fun _=> ?_)
def Qb0.T9 : Bool × List (List Nat × List Nat) := (true, [([], []), ([0], [0]), ([], []), ([1, 2], [1, 2]), ([3], [3]), ([], []), ([5], [5]), ([4, 6], [4, 6]), ([1, 2, 0, 1, 2, 3, 4, 5, 6, 7], [1, 2]), ([8, 7, 0, 1, 2, 3, 4, 5, 6, 7], [7, 8])])
def Qb0.B9 : List Nat := [0, 1, 0, 7, 15, 0, 32, 127, 255, 511]
omit [Fn2] in
theorem Qb0.tab9 : rtab .any (opsOf Try.f117 9) = Qb0.T9 := by kernel_rfl
omit [Fn2] in
theorem Qb0.bits9 : Qei Qb0.T9.2 Qb0.B9 = true := by kernel_rfl
set_option maxHeartbeats 8000000 in
set_option maxRecDepth 100000 in
open Go.Proofs.Ytkgngggppcmpfaa.X in
theorem Qb0.calls (gF : Nat) (lbF : Array Value) (eg : ∀ args w, (callFunc gF args).run Try.prog w = .ok (.enter gF args) w) (k : Nat) (a0 : Int) (a1 : Int) (r : List Int) (w : World) (hpF : ∀ x0_ x1_ b, Qfb.f x0_ x1_ = some b → Fv Try.prog gF lbF #[.int .i64 x0_, .int .i64 x1_] (.bool b) w) (h : Qb0.f k a0 a1 = some r) :
 Calls Try.prog 117 #[.int .i64 a0, .func (.func gF) #[] lbF] w fun e w'=> ∃ v0_:Value,e= .returned (.agg #[v0_])∧Kd.R (Kd.int .i64) 3 w' w.heap.size (fun _=>True) v0_ r∧Below w.heap.size w w':=by
 have HP:=Aside0.mk hpF;clear hpF;have hu26:=Try.underlying26;have HB:=Aside0.mk (Below.refl w.heap.size w);have H:(if 0≤a0 then (if (a0:Int).toNat≤35184372088832 then (Qb0.l0 k a0 0 (List.replicate (a0:Int).toNat 0)) else (none)) else (none))=some r:=h;clear h
 by_cases c3:0≤a0
 ·
  rw [if_pos c3] at H;have c3b0:=eq_true c3;have c3b1:decide (0≤a0)=true:=decide_eq_true c3;clear c3
  by_cases c4:(a0:Int).toNat≤35184372088832
  ·
   rw [if_pos c4] at H;have c4b0:=eq_true c4;have c4b1:decide ((a0:Int).toNat≤35184372088832)=true:=decide_eq_true c4;clear c4;obtain ⟨y545,hy545⟩: ∃ y_:List Int,y_=(List.replicate (a0:Int).toNat 0):=⟨_,rfl⟩
   replace H:(Qb0.l0 k a0 0 y545)=some r:=by first|(rw [hy545];with_reducible exact H)|(have H2_:=(Option.bind_some _ _).symm.trans H;rw [hy545];with_reducible exact H2_)|(have H2_:=(Option.bind_some _ _).symm.trans H;with_reducible exact H2_)|with_reducible exact H|(rw [hy545];exact H)|exact H
   have Ny545:=Aside0.mk hy545;clear hy545;have H':=Aside0.mk H;clear H;go_enter Try.func117,Try.ntmps117;go_wp2_with (first|((with_reducible refine Qbb (N:=4) rfl ?_);refine Qbg ?hg (N:=4) ?hd (cs:= #[.slice none 0 0]) (t:=26) ?hr ?_;(case hd=>rfl);(case hg=>rfl);(case hr=>first|(go_simp;done)|(go_simp;rfl));intro gb544 hg w5 hbox hb;have BK544:=Aside0.mk (hbox);have GW544:=Aside0.mk ((by rw [hg];exact (Qq (by repeat (first|(with_reducible first|exact HB.out|apply Qc|apply Qa|apply Qd)|exact HB.out))):w.heap.size≤gb544));have GE544:=GW544;replace HB:=Aside0.mk (Qj (by repeat (first|(with_reducible first|exact HB.out|apply Qc|apply Qa|apply Qd)|exact HB.out)) hb);clear hb hbox hg)|((with_reducible refine Qbb (N:=9) rfl ?_);refine Kd.R_make (Kd.int .i64) _ 3 rfl (N:=9) rfl 24 _ _ rfl a0 rfl rfl Try.underlying24 (.int .i64 0) 8 Qec rfl (by decide) (by omega) 0 (ok:=fun _=>True) (okp:=fun _=>True) rfl (fun _ hk=>hk) trivial (of_decide_eq_true (by first|(with_reducible assumption)|assumption)) (Nat.le_trans (Nat.mul_le_mul_right _ (of_decide_eq_true (by first|(with_reducible assumption)|assumption):a0.toNat≤35184372088832)) (by omega)) (Below.refl _ _) (Nat.le_refl _) ?_;intro v546 w6 ho7 hb hg_ hnew_;clear hg_ hnew_;(first|rw [←Ny545.out] at ho7|(simp only [Int.reduceToNat] at ho7;rw [←Ny545.out] at ho7));have HO547:=Aside0.mk (Kd.R_lower ho7 (Qq (by repeat (first|(with_reducible first|exact HB.out|apply Qc|apply Qa|apply Qd|refine Qe ?_ GE544.out)|exact HB.out))));replace BK544:=Aside0.mk (Qu (g:=gb544) (o:= .cells #[.slice none 0 0] 26 (0,0)) (by (with_reducible repeat (first|refine Qg ?_ _|refine Qh ?_|refine Qf ?_ _));exact BK544.out) hb);replace HB:=Aside0.mk (Qj (by repeat (first|(with_reducible first|exact HB.out|apply Qc|apply Qa|apply Qd|refine Qe ?_ GE544.out)|exact HB.out)) hb);clear hb ho7;obtain ⟨Ao8,co8,eo8⟩:=Kd.R_slice HO547.out;subst eo8)|((with_reducible refine Qbb (N:=5) rfl ?_);refine Qbg ?hg (N:=5) ?hd (cs:= #[.slice none 0 0]) (t:=26) ?hr ?_;(case hd=>rfl);(case hg=>rfl);(case hr=>first|(go_simp;done)|(go_simp;rfl));intro gb548 hg w9 hbox hb;replace HO547:=Aside0.mk (Kd.R_below (by (with_reducible repeat (first|apply Kd.R_alloc|apply Kd.R_drewN|apply Kd.R_drew));exact HO547.out) hb);have BK548:=Aside0.mk (hbox);have GW548:=Aside0.mk ((by rw [hg];exact (Qq (by repeat (first|(with_reducible first|exact HB.out|apply Qc|apply Qa|apply Qd|refine Qe ?_ GE544.out)|exact HB.out))):w.heap.size≤gb548));have GE548:=GW548;replace HB:=Aside0.mk (Qj (by repeat (first|(with_reducible first|exact HB.out|apply Qc|apply Qa|apply Qd|refine Qe ?_ GE544.out)|exact HB.out)) hb);have NB544_548:=Aside0.mk ((by rw [hg];exact Nat.ne_of_lt (Qcu (g:=gb544) (o:= .cells #[.slice none 0 0] 26 (0,0)) (by (with_reducible repeat (first|refine Qg ?_ _|refine Qh ?_|refine Qf ?_ _));exact BK544.out)):gb544≠gb548));have NB548_544:=Aside0.mk ((by rw [hg];exact Nat.ne_of_gt (Qcu (g:=gb544) (o:= .cells #[.slice none 0 0] 26 (0,0)) (by (with_reducible repeat (first|refine Qg ?_ _|refine Qh ?_|refine Qf ?_ _));exact BK544.out)):gb548≠gb544));replace BK544:=Aside0.mk (Qu (g:=gb544) (o:= .cells #[.slice none 0 0] 26 (0,0)) (by (with_reducible repeat (first|refine Qg ?_ _|refine Qh ?_|refine Qf ?_ _));exact BK544.out) hb);clear hb hbox hg;have hnb10:=NB548_544.out;have hnc10:=NB544_548.out;have hcz11_0:w9.cell? ⟨gb548,0,none⟩=some (.slice none 0 0):=(Qx BK548.out 0).trans rfl;have hfz11_0:=Qp BK548.out 0))
   go_loopg [12] k (fun kq v12 w'=> ∃ (x12_1:Int) (x549000_1:List Int) (u549000:Value),v12= .int .i64 x12_1∧Aside0 (Qb0.l0 kq a0 x12_1 x549000_1=some r)∧Aside0 (kq≤k)∧Aside0 (Kd.R (Kd.int .i64) 3 w' w.heap.size (fun _=>True) u549000 x549000_1)∧Aside0 (w'.heap[gb544]? =some (.cells #[(.slice none 0 0)] 26 (0,0)))∧Aside0 (w'.heap[gb548]? =some (.cells #[u549000] 26 (0,0)))∧Aside0 (Below w.heap.size w w'))
   case atStart=>exact ⟨(0),(y545),(.slice Ao8 y545.length co8),(by first|rfl|(simp;done)|(simp [*];done)),H',⟨Nat.le_refl _⟩,⟨by (with_reducible repeat (first|apply Kd.R_alloc|apply Kd.R_drewN|apply Kd.R_drew));exact Kd.R_mono (Kd.R_far (p:=⟨gb548,0,none⟩) (Kd.R_types HO547.out BK548.out (by decide)) (fun _ hk=>hk.2) (.slice Ao8 y545.length co8)) (fun _ hk=>trivial)⟩,⟨by (with_reducible repeat (first|refine Qg ?_ _|refine Qh ?_|refine Qf ?_ _));refine Qc6 ?_ NB544_548.out _;(with_reducible repeat (first|refine Qg ?_ _|refine Qh ?_|refine Qf ?_ _));exact BK544.out⟩,⟨by (with_reducible repeat (first|refine Qg ?_ _|refine Qh ?_|refine Qf ?_ _));refine Qcn (cs:= #[.slice none 0 0]) ?_ 0 _ rfl;(with_reducible repeat (first|refine Qg ?_ _|refine Qh ?_|refine Qf ?_ _));exact BK548.out⟩,⟨by repeat (first|(with_reducible first|exact HB.out|apply Qc|apply Qa|apply Qd|refine Qe ?_ GE544.out|refine Qe ?_ GE548.out)|exact HB.out)⟩⟩
   case round=>
    clear H'
    try clear c1
    try clear p2
    try clear c3
    try clear c3b0
    try clear c3b1
    try clear c4
    try clear c4b0
    try clear c4b1
    try clear c10
    try clear c11
    try clear hcz11_0
    try clear hfz11_0
    obtain ⟨x12_1,x549000_1,u549000,rfl,HA,HK1,HO_549000,BK544,BK548,HB⟩:=hrel;cases gk with
    |zero=>exact absurd HA.out (by simp [Qb0.l0])
    |succ k1=>
     have H:=HA.out;clear HA;simp only [Qb0.l0] at H
     by_cases c12:x12_1<a0
     ·
      rw [if_pos c12] at H;have c12b0:decide (x12_1<a0)=true:=decide_eq_true c12;clear c12;have H':=Aside0.mk H;clear H;go_wp2
      go_loopg [16] k1 (fun kq v16 w'=> ∃ (x16_2:Int) (x549000_2:List Int) (u549000:Value),v16= .int .i64 x16_2∧Aside0 (Qb0.l1 kq x12_1 a0 x12_1 x12_1 x16_2 x549000_2=some r)∧Aside0 (kq≤k1)∧Aside0 (Kd.R (Kd.int .i64) 3 w' w.heap.size (fun _=>True) u549000 x549000_2)∧Aside0 (w'.heap[gb544]? =some (.cells #[(.slice none 0 0)] 26 (0,0)))∧Aside0 (w'.heap[gb548]? =some (.cells #[u549000] 26 (0,0)))∧Aside0 (Below w.heap.size w w'))
      case atStart=>exact ⟨(0),(x549000_1),(u549000),(by first|rfl|(simp;done)|(simp [*];done)),H',⟨Nat.le_refl _⟩,⟨by (with_reducible repeat (first|apply Kd.R_alloc|apply Kd.R_drewN|apply Kd.R_drew));exact HO_549000.out⟩,⟨by (with_reducible repeat (first|refine Qg ?_ _|refine Qh ?_|refine Qf ?_ _));exact BK544.out⟩,⟨by (with_reducible repeat (first|refine Qg ?_ _|refine Qh ?_|refine Qf ?_ _));exact BK548.out⟩,⟨by repeat (first|(with_reducible first|exact HB.out|apply Qc|apply Qa|apply Qd|refine Qe ?_ GE544.out|refine Qe ?_ GE548.out)|exact HB.out)⟩⟩
      case round=>
       clear H'
       try clear c1
       try clear p2
       try clear c3
       try clear c3b0
       try clear c3b1
       try clear c4
       try clear c4b0
       try clear c4b1
       try clear c10
       try clear c11
       try clear c12
       try clear c12b0
       try clear hcz11_0
       try clear hfz11_0
       try clear p2
       obtain ⟨x16_2,x549000_2,u549000,rfl,HA,HK2,HO_549000,BK544,BK548,HB⟩:=hrel;cases gk with
       |zero=>exact absurd HA.out (by simp [Qb0.l1])
       |succ k2=>
        have H:=HA.out;clear HA;simp only [Qb0.l1] at H
        by_cases c13:x16_2<x12_1
        ·
         rw [if_pos c13] at H;have c13b0:decide (x16_2<x12_1)=true:=decide_eq_true c13;clear c13;replace H:=Option.bind_eq_some_iff.mp H;obtain ⟨t549,A140,H⟩:=H;replace H:(if t549=true then (if 0≤x12_1 then (if x12_1<(x549000_2.length:Int) then (if 0≤x16_2 then (Qb0.l1 k2 x12_1 a0 x12_1 x12_1 (wrap64 (x16_2+1)) (x549000_2.set (x12_1:Int).toNat (Go.bits .or .i64 (rd x549000_2 x12_1) (shl .i64 1 x16_2)))) else (none)) else (none)) else (none)) else (Qb0.l1 k2 x12_1 a0 x12_1 x12_1 (wrap64 (x16_2+1)) x549000_2))=some r:=H;have A14:=Aside0.mk A140;clear A140
         by_cases c15:t549=true
         ·
          subst c15;have H1:(if 0≤x12_1 then (if x12_1<(x549000_2.length:Int) then (if 0≤x16_2 then (Qb0.l1 k2 x12_1 a0 x12_1 x12_1 (wrap64 (x16_2+1)) (x549000_2.set (x12_1:Int).toNat (Go.bits .or .i64 (rd x549000_2 x12_1) (shl .i64 1 x16_2)))) else (none)) else (none)) else (none))=some r:=by rw [if_pos rfl] at H;exact H
          clear H;have H:=H1;clear H1
          by_cases c16:0≤x12_1
          ·
           rw [if_pos c16] at H;have c16b0:decide (0≤x12_1)=true:=decide_eq_true c16;clear c16
           by_cases c17:x12_1<(x549000_2.length:Int)
           ·
            rw [if_pos c17] at H;have c17b0:decide (x12_1<(x549000_2.length:Int))=true:=decide_eq_true c17;clear c17
            by_cases c18:0≤x16_2
            ·
             rw [if_pos c18] at H;have c18b0:=eq_true c18;have c18b1:decide (0≤x16_2)=true:=decide_eq_true c18;clear c18;obtain ⟨ji19,hji19⟩: ∃ j_:Int,(shl .i64 1 x16_2)=j_:=⟨_,rfl⟩
             replace H:(Qb0.l1 k2 x12_1 a0 x12_1 x12_1 (wrap64 (x16_2+1)) (x549000_2.set (x12_1:Int).toNat (Go.bits .or .i64 (rd x549000_2 x12_1) (ji19))))=some r:=by first|(rw [hji19] at H;exact H)|(simp only [hji19] at H ⊢;exact H)
             (try rw [hji19] at A14)
             have hji19_:(IntKind.i64.wrap (1*2 ^ min x16_2.toNat 64))=ji19:=hji19;have hji19z:x16_2≤64→(IntKind.i64.wrap (1*2 ^ x16_2.toNat))=ji19:=Qez hji19;have hji19u:(IntKind.i64.wrap (2 ^ min x16_2.toNat 64))=ji19:=by have h_:=hji19_;rw [Int.one_mul] at h_;exact h_
             have hji19v:x16_2≤64→(IntKind.i64.wrap (2 ^ x16_2.toNat))=ji19:=fun hle_=>by have h_:=hji19z hle_;rw [Int.one_mul] at h_;exact h_
             have hji19y:(wrap64 (1*2 ^ min x16_2.toNat 64))=ji19:=(Qcb _).symm.trans hji19_;have hji19x:x16_2≤64→(wrap64 (1*2 ^ x16_2.toNat))=ji19:=fun h_=>(Qcb _).symm.trans (hji19z h_)
             obtain ⟨y551,hy551⟩: ∃ y_:List Int,y_=(x549000_2.set (x12_1:Int).toNat (Go.bits .or .i64 (rd x549000_2 x12_1) (ji19))):=⟨_,rfl⟩
             replace H:(Qb0.l1 k2 x12_1 a0 x12_1 x12_1 (wrap64 (x16_2+1)) y551)=some r:=by first|(rw [hy551];with_reducible exact H)|(have H2_:=(Option.bind_some _ _).symm.trans H;rw [hy551];with_reducible exact H2_)|(have H2_:=(Option.bind_some _ _).symm.trans H;with_reducible exact H2_)|with_reducible exact H|(rw [hy551];exact H)|exact H
             have Ny551:=Aside0.mk hy551;clear hy551;have H':=Aside0.mk H;clear H
             try go_wp2_with (first|(go_at_fn gF;(with_reducible refine (Fv.calls (HP.out _ _ _ A14.out) (by repeat (first|(with_reducible first|exact HB.out|apply Qc|apply Qa|apply Qd|refine Qe ?_ GE544.out|refine Qe ?_ GE548.out)|exact HB.out))).mono ?_);rintro e w21 ⟨rfl,hb⟩;replace HO_549000:=Aside0.mk (Kd.R_below (by (with_reducible repeat (first|apply Kd.R_alloc|apply Kd.R_drewN|apply Kd.R_drew));exact HO_549000.out) hb);replace BK544:=Aside0.mk (Qu (g:=gb544) (o:= .cells #[.slice none 0 0] 26 (0,0)) (by (with_reducible repeat (first|refine Qg ?_ _|refine Qh ?_|refine Qf ?_ _));exact BK544.out) hb);replace BK548:=Aside0.mk (Qu (g:=gb548) (o:= .cells #[u549000] 26 (0,0)) (by (with_reducible repeat (first|refine Qg ?_ _|refine Qh ?_|refine Qf ?_ _));exact BK548.out) hb);replace HB:=Aside0.mk (Qj (by repeat (first|(with_reducible first|exact HB.out|apply Qc|apply Qa|apply Qd|refine Qe ?_ GE544.out|refine Qe ?_ GE548.out)|exact HB.out)) hb);(try clear hb);(try clear hb2);(try clear hk);(try clear hi)))
             replace HO_549000:=Aside0.mk (Kd.R_drew HO_549000.out);replace BK544:=Aside0.mk (Qh BK544.out);replace BK548:=Aside0.mk (Qh BK548.out);replace HB:=Aside0.mk (Qd HB.out);obtain ⟨Ao23,co23,eo23⟩:=Kd.R_slice HO_549000.out
             (first|subst eo23|(injection eo23 with f1_ f2_ f3_;have f4_:=f1_.symm;have f5_:=f3_.symm;clear f1_ f2_ f3_;subst f4_;subst f5_))
             have p550:0≤(x12_1:Int):=of_decide_eq_true (by first|(with_reducible assumption)|assumption);have q550:x12_1<(x549000_2.length:Int):=of_decide_eq_true (by first|(with_reducible assumption)|assumption);obtain ⟨ad550,e550,hx550_0⟩:=Kd.at_int (Kd.R_reads' HO_549000.out).2.2 x12_1 p550 q550;cases e550;replace p550:=eq_true p550;replace q550:=eq_true q550;have p20:0≤(x12_1:Int):=of_decide_eq_true (by first|(with_reducible assumption)|assumption);have q20:(x12_1:Int)<((x549000_2.length:Int):Int):=of_decide_eq_true (by first|(with_reducible assumption)|assumption);obtain ⟨go20,co20,eo20,gb20,gl20,cl20,HG20⟩:=Kd.R_form HO_549000.out (by omega)
             (first|cases eo20|(injection eo20 with ea_ en_ ec_;(first|subst ea_|(injection ea_ with ea_;subst ea_));subst ec_;clear en_))
             have GB20:=Aside0.mk gb20;have GG20:=Aside0.mk HG20;clear gb20 gl20 HG20
             (first|simp only [Qd3] at hx550_0|skip)
             obtain ⟨hx20_0,hf20_0⟩:=Kd.R_celln 0 HO_549000.out (x12_1:Int) p20 q20;replace p20:=eq_true p20;replace q20:=eq_true q20;have HP24:=Kd.R_putn HO_549000.out (x12_1:Int) (Go.bits .or .i64 (rd x549000_2 x12_1) (ji19));rw [←Ny551.out] at HP24;have HQ24:=Aside0.mk HP24;clear HP24;refine Qgy (n:=10) (S:=fun w'=>w'.cell? ⟨gb548,0,none⟩=some (.slice (some ⟨go20,0,none⟩) x549000_2.length co23)∧w'.cell? ⟨go20,(x12_1).toNat,none⟩=some (.int .i64 (rd x549000_2 x12_1))) (ds:= [9]) #[false,false,false,false,false,false,false,false,false,false] (by kernel_rfl) rfl rfl ⟨(Qx BK548.out 0).trans rfl,hx550_0⟩ (fun hHeld=> ?_);refine Qfr Qb0.tab9 Qb0.bits9 (fun HT_ HW_=> ?_);generalize w21.drew=w22 at HO_549000 BK544 BK548 HB GG20 HQ24 hf20_0 hx20_0 hx550_0 hHeld ⊢;refine Qc3 (i:=0) (N:=some 23) (v:= ?_) (a':= ?_) #[true,false,false,false,false,false,false,false,false,false] rfl rfl (Qcy HT_.out (by kernel_rfl)) (fun _ _ _ h=>h) (Or.inl ⟨by rfl,?_⟩) ?_ ?_;rotate_left
             ·
              intro w';go_simp
              with_reducible rfl
             rotate_left
             ·
              simp only [Act.put,List.setIfInBounds_toArray,List.set_cons_zero,List.set_cons_succ,Qcb,Qcj];rfl
             refine Qc3 (i:=2) (N:=some 25) (v:= ?_) (a':= ?_) #[true,false,true,false,false,false,false,false,false,false] rfl rfl (Qcy HT_.out (by kernel_rfl)) (fun _ _ _ h=>h) (Or.inl ⟨by rfl,?_⟩) ?_ ?_;rotate_left
             ·
              intro w';go_simp
              with_reducible rfl
             rotate_left
             ·
              simp only [Act.put,List.setIfInBounds_toArray,List.set_cons_zero,List.set_cons_succ,Qcb,Qcj];rfl
             refine Qc3 (i:=5) (N:=some 28) (v:= ?_) (a':= ?_) #[true,false,true,false,false,true,false,false,false,false] rfl rfl (Qcy HT_.out (by kernel_rfl)) (fun _ _ _ h=>h) (Or.inl ⟨by rfl,?_⟩) ?_ ?_;rotate_left
             ·
              intro w';go_simp
              with_reducible rfl
             rotate_left
             ·
              simp only [Act.put,List.setIfInBounds_toArray,List.set_cons_zero,List.set_cons_succ,Qcb,Qcj];rfl
             refine Qc3 (i:=6) (N:=some 29) (v:= ?_) (a':= ?_) #[true,false,true,false,false,true,true,false,false,false] rfl rfl (Qcy HT_.out (by kernel_rfl)) (fun _ _ _ h=>h) (Or.inl ⟨by rfl,?_⟩) ?_ ?_;rotate_left
             ·
              intro w';go_simp
              with_reducible rfl
             rotate_left
             ·
              simp only [Act.put,List.setIfInBounds_toArray,List.set_cons_zero,List.set_cons_succ,Qcb,Qcj];rfl
             refine take_ (i:=1) (N:=some 24) (v:= ?_) (a':= ?_) #[true,true,true,false,false,true,true,false,false,false] rfl rfl (Qdu HT_.out HW_.out (by kernel_rfl)) (fun _ _ _ h=>h) (Or.inl ⟨by rfl,?_⟩) hHeld ?_ ?_;rotate_left
             ·
              rintro w' ⟨s0,s1⟩;go_simp
              with_reducible rfl
             rotate_left
             ·
              simp only [Act.put,List.setIfInBounds_toArray,List.set_cons_zero,List.set_cons_succ,Qcb,Qcj];rfl
             refine Qc3 (i:=3) (N:=some 26) (v:= ?_) (a':= ?_) #[true,true,true,true,false,true,true,false,false,false] rfl rfl (Qcy HT_.out (by kernel_rfl)) (fun _ _ _ h=>h) (Or.inl ⟨by rfl,?_⟩) ?_ ?_;rotate_left
             ·
              intro w';go_simp
              with_reducible rfl
             rotate_left
             ·
              simp only [Act.put,List.setIfInBounds_toArray,List.set_cons_zero,List.set_cons_succ,Qcb,Qcj];rfl
             refine take_ (i:=4) (N:=some 27) (v:= ?_) (a':= ?_) #[true,true,true,true,true,true,true,false,false,false] rfl rfl (Qdu HT_.out HW_.out (by kernel_rfl)) (fun _ _ _ h=>h) (Or.inl ⟨by rfl,?_⟩) hHeld ?_ ?_;rotate_left
             ·
              rintro w' ⟨s0,s1⟩;go_simp
              with_reducible rfl
             rotate_left
             ·
              simp only [Act.put,List.setIfInBounds_toArray,List.set_cons_zero,List.set_cons_succ,Qcb,Qcj];rfl
             refine Qc3 (i:=7) (N:=some 30) (v:= ?_) (a':= ?_) #[true,true,true,true,true,true,true,true,false,false] rfl rfl (Qcy HT_.out (by kernel_rfl)) (fun _ _ _ h=>h) (Or.inl ⟨by rfl,?_⟩) ?_ ?_;rotate_left
             ·
              intro w';go_simp
              with_reducible rfl
             rotate_left
             ·
              simp only [Act.put,List.setIfInBounds_toArray,List.set_cons_zero,List.set_cons_succ,Qcb,Qcj];rfl
             refine Qc3 (i:=8) (N:=some 31) (v:= ?_) (a':= ?_) #[true,true,true,true,true,true,true,true,true,false] rfl rfl (Qcy HT_.out (by kernel_rfl)) (fun _ _ _ h=>h) (Or.inl ⟨by rfl,?_⟩) ?_ ?_;rotate_left
             ·
              intro w';go_simp
              with_reducible rfl
             rotate_left
             ·
              simp only [Act.put,List.setIfInBounds_toArray,List.set_cons_zero,List.set_cons_succ,Qcb,Qcj];rfl
             refine Qie (i:=9) (N:=none) #[true,true,true,true,true,true,true,true,true,true] rfl rfl (Qfe HT_.out (by kernel_rfl)) (by decide) (fun K hK=> ?_);refine Qh4 (w1:= ?_) (by rfl) rfl ?_ ?_;rotate_left
             ·
              go_simp;rfl
             refine hK.out _ _ ?_;clear hK K;refine Qik (Qg0 HT_.out (by kernel_rfl)) ?_
             try go_wp2
             go_roundg k2
             case measure=>have:=HK1.out;have:=HK2.out;omega
             case rel=>exact ⟨(wrap64 (x16_2+1)),(y551),(.slice (some ⟨go20,0,none⟩) x549000_2.length co23),(by first|rfl|(simp;done)|(simp [*];done)),H',⟨by have:=HK1.out;have:=HK2.out;omega⟩,⟨by (with_reducible repeat (first|apply Kd.R_alloc|apply Kd.R_drewN|apply Kd.R_drew));exact HQ24.out⟩,⟨by (with_reducible repeat (first|refine Qg ?_ _|refine Qh ?_|refine Qf ?_ _));refine Qc6 ?_ (by have h_:=Kd.R_ne HO_549000.out BK544.out (by decide);intro e_;exact h_ (by rw [e_];rfl)) _;(with_reducible repeat (first|refine Qg ?_ _|refine Qh ?_|refine Qf ?_ _));exact BK544.out⟩,⟨by (with_reducible repeat (first|refine Qg ?_ _|refine Qh ?_|refine Qf ?_ _));refine Qc6 ?_ (by have h_:=Kd.R_ne HO_549000.out BK548.out (by decide);intro e_;exact h_ (by rw [e_];rfl)) _;(with_reducible repeat (first|refine Qg ?_ _|refine Qh ?_|refine Qf ?_ _));exact BK548.out⟩,⟨by repeat (first|(with_reducible first|exact HB.out|apply Qc|apply Qa|apply Qd|refine Qe ?_ GB20.out|refine Qe ?_ GE544.out|refine Qe ?_ GE548.out)|exact HB.out)⟩⟩
            ·
             rw [if_neg c18] at H;exact absurd H (by simp)
           ·
            rw [if_neg c17] at H;exact absurd H (by simp)
          ·
           rw [if_neg c16] at H;exact absurd H (by simp)
         ·
          replace c15:=Bool.eq_false_iff.mpr c15;subst c15;have H1:(Qb0.l1 k2 x12_1 a0 x12_1 x12_1 (wrap64 (x16_2+1)) x549000_2)=some r:=by rw [if_neg (show ¬ (false=true) by decide)] at H;exact H
          clear H;have H:=H1;clear H1;have H':=Aside0.mk H;clear H;go_wp2_with (first|(go_at_fn gF;(with_reducible refine (Fv.calls (HP.out _ _ _ A14.out) (by repeat (first|(with_reducible first|exact HB.out|apply Qc|apply Qa|apply Qd|refine Qe ?_ GE544.out|refine Qe ?_ GE548.out)|exact HB.out))).mono ?_);rintro e w25 ⟨rfl,hb⟩;replace HO_549000:=Aside0.mk (Kd.R_below (by (with_reducible repeat (first|apply Kd.R_alloc|apply Kd.R_drewN|apply Kd.R_drew));exact HO_549000.out) hb);replace BK544:=Aside0.mk (Qu (g:=gb544) (o:= .cells #[.slice none 0 0] 26 (0,0)) (by (with_reducible repeat (first|refine Qg ?_ _|refine Qh ?_|refine Qf ?_ _));exact BK544.out) hb);replace BK548:=Aside0.mk (Qu (g:=gb548) (o:= .cells #[u549000] 26 (0,0)) (by (with_reducible repeat (first|refine Qg ?_ _|refine Qh ?_|refine Qf ?_ _));exact BK548.out) hb);replace HB:=Aside0.mk (Qj (by repeat (first|(with_reducible first|exact HB.out|apply Qc|apply Qa|apply Qd|refine Qe ?_ GE544.out|refine Qe ?_ GE548.out)|exact HB.out)) hb);(try clear hb);(try clear hb2);(try clear hk);(try clear hi)));go_roundg k2
          case measure=>have:=HK1.out;have:=HK2.out;omega
          case rel=>exact ⟨(wrap64 (x16_2+1)),(x549000_2),(u549000),(by first|rfl|(simp;done)|(simp [*];done)),H',⟨by have:=HK1.out;have:=HK2.out;omega⟩,⟨by (with_reducible repeat (first|apply Kd.R_alloc|apply Kd.R_drewN|apply Kd.R_drew));exact HO_549000.out⟩,⟨by (with_reducible repeat (first|refine Qg ?_ _|refine Qh ?_|refine Qf ?_ _));exact BK544.out⟩,⟨by (with_reducible repeat (first|refine Qg ?_ _|refine Qh ?_|refine Qf ?_ _));exact BK548.out⟩,⟨by repeat (first|(with_reducible first|exact HB.out|apply Qc|apply Qa|apply Qd|refine Qe ?_ GE544.out|refine Qe ?_ GE548.out)|exact HB.out)⟩⟩
        ·
         rw [if_neg c13] at H;have c13b0:decide (x16_2<x12_1)=false:=decide_eq_false c13;clear c13;have H':=Aside0.mk H;clear H;go_wp2;go_roundg k2
         case measure=>have:=HK1.out;have:=HK2.out;omega
         case rel=>exact ⟨(wrap64 (x12_1+1)),(x549000_2),(u549000),(by first|rfl|(simp;done)|(simp [*];done)),H',⟨by have:=HK1.out;have:=HK2.out;omega⟩,⟨by (with_reducible repeat (first|apply Kd.R_alloc|apply Kd.R_drewN|apply Kd.R_drew));exact HO_549000.out⟩,⟨by (with_reducible repeat (first|refine Qg ?_ _|refine Qh ?_|refine Qf ?_ _));exact BK544.out⟩,⟨by (with_reducible repeat (first|refine Qg ?_ _|refine Qh ?_|refine Qf ?_ _));exact BK548.out⟩,⟨by repeat (first|(with_reducible first|exact HB.out|apply Qc|apply Qa|apply Qd|refine Qe ?_ GE544.out|refine Qe ?_ GE548.out)|exact HB.out)⟩⟩
     ·
      rw [if_neg c12] at H;have c12b0:decide (x12_1<a0)=false:=decide_eq_false c12;clear c12;obtain rfl:=Option.some.inj H;have hnb26:=NB548_544.out;have hnc26:=NB544_548.out;have hcz27_0:wr.cell? ⟨gb548,0,none⟩=some (u549000):=(Qx BK548.out 0).trans rfl;have hfz27_0:=Qp BK548.out 0;obtain ⟨Ao28,co28,eo28⟩:=Kd.R_slice HO_549000.out;subst eo28;have hcz29_0:wr.cell? ⟨gb544,0,none⟩=some (.slice none 0 0):=(Qx BK544.out 0).trans rfl;have hfz29_0:=Qp BK544.out 0;go_wp2;refine bodyPost_ret (results_cell_row rfl _ _ gb544 26 #[.slice Ao28 x549000_1.length co28] (0,0) _ rfl (by (with_reducible repeat (first|refine Qg ?_ _|refine Qh ?_|refine Qf ?_ _));refine Qcn (cs:= #[.slice none 0 0]) ?_ 0 _ rfl;(with_reducible repeat (first|refine Qg ?_ _|refine Qh ?_|refine Qf ?_ _));exact BK544.out) Try.underlying26 rfl (by kernel_rfl)) rfl ?_;exact ⟨_,by first|rfl|(simp [Qm,Ql] <;>rfl)|(simp [*,Qm,Ql] <;>rfl),by (with_reducible repeat (first|apply Kd.R_alloc|apply Kd.R_drewN|apply Kd.R_drew));exact Kd.R_mono (Kd.R_far (p:=⟨gb544,0,none⟩) (Kd.R_types HO_549000.out BK544.out (by decide)) (fun _ hk=>hk.2) (.slice Ao28 x549000_1.length co28)) (fun _ hk=>trivial),by repeat (first|(with_reducible first|exact HB.out|apply Qc|apply Qa|apply Qd|refine Qe ?_ GE544.out|refine Qe ?_ GE548.out)|exact HB.out)⟩
  ·
   rw [if_neg c4] at H;exact absurd H (by simp)
 ·
  rw [if_neg c3] at H;exact absurd H (by simp)
end Go.Proofs.Ytkgngggppcmpfaa.L
end
section
namespace Go.Proofs.Ytkgngggppcmpfaa.L
open Go.RowKit Go.Proofs.YtkgngggppcmpfaaW.PrintWords Go.Proofs.YtkgngggppcmpfaaW.PrintLast Go.Proofs.YtkgngggppcmpfaaW.PrintMore
attribute [local go_sem] Qbj Qbi Qbu Qbt Qbd Qbc Qbk Qbl
set_option linter.unusedVariables false
set_option linter.unusedSimpArgs false
theorem Qbz.w (x : Int) : IntKind.i64.wrap x = wrap64 x := by rw [IntKind.wrap_i64]; unfold wrap64; rfl
@[reducible] def Qbz.inst (l0 : List Int) : Fn2 := ⟨fun j i => if 0 ≤ wrap64 (wrap64 ((l0.length : Int) - 1) - j) ∧ wrap64 (wrap64 ((l0.length : Int) - 1) - j) < (l0.length : Int) then Qdi.f (rd l0 (wrap64 (wrap64 ((l0.length : Int) - 1) - j))) (wrap64 (wrap64 ((l0.length : Int) - 1) - i)) else none⟩
def Qbz.f (k : Nat) (l0_0 : List Int) : Option (List Int) := @Qb0.f (Qbz.inst l0_0) k (l0_0.length : Int) 0
theorem Qbz.mono : ∀ a0 k, LeO (Qbz.f k a0) (Qbz.f (k + 1) a0) := fun a0 k => @Qb0.mono (Qbz.inst a0) _ _ k
open Go.Proofs.Ytkgngggppcmpfaa.X in
set_option maxHeartbeats 1600000 in
set_option maxRecDepth 100000 in
theorem Qbz.lit (A0 : Option Addr) (c0 : Nat) (l0 : List Int) (j i : Int) (t : Bool) (B B2 : Nat) (w : World) (hr0 : Kd.C (Kd.int .i64) w A0 l0.length l0) (hc0 : l0.length ≤ c0) (hB : B < w.heap.size) (hB2 : B2 < w.heap.size) (hc : w.cell? ⟨B, 0, none⟩ = some (.slice A0 l0.length c0)) (hn : w.cell? ⟨B2, 0, none⟩ = some (.int .i64 (l0.length : Int))) (h : (Qbz.inst l0).p j i = some t) :
 Fv Try.prog 118 #[.pointer (some ⟨B,0,none⟩), .pointer (some ⟨B2,0,none⟩)] #[.int .i64 j, .int .i64 i] (.bool t) w:=by
 intro W hb;have hc':W.cell? ⟨B,0,none⟩=some (.slice A0 l0.length c0):=(hb.cell (p:=⟨B,0,none⟩) hB).trans hc;have hn':W.cell? ⟨B2,0,none⟩=some (.int .i64 (l0.length:Int)):=(hb.cell (p:=⟨B2,0,none⟩) hB2).trans hn;unfold Qbz.inst at h
 by_cases hx:0≤wrap64 (wrap64 ((l0.length:Int) - 1) - j)∧wrap64 (wrap64 ((l0.length:Int) - 1) - j)<(l0.length:Int)
 ·
  have h':Qdi.f (rd l0 (wrap64 (wrap64 ((l0.length:Int) - 1) - j))) (wrap64 (wrap64 ((l0.length:Int) - 1) - i))=some t:=by simpa only [if_pos hx] using h
  have HV:=Aside0.mk (show Qdi.f (rd l0 (IntKind.i64.wrap (IntKind.i64.wrap ((l0.length:Int) - 1) - j))) (IntKind.i64.wrap (IntKind.i64.wrap ((l0.length:Int) - 1) - i))=some t by simp only [Qbz.w];exact h');have HR:=Kd.C_below hr0 hb;have HC:=Aside0.mk hc0;have p1:0≤IntKind.i64.wrap (IntKind.i64.wrap ((l0.length:Int) - 1) - j):=by rw [Qbz.w,Qbz.w];exact hx.1
  have q1:IntKind.i64.wrap (IntKind.i64.wrap ((l0.length:Int) - 1) - j)<(l0.length:Int):=by rw [Qbz.w,Qbz.w];exact hx.2
  obtain ⟨ad,e1,hx0⟩:=Kd.at_int HR _ p1 q1;cases e1;clear h h' hr0 hb hc hn hc0 hB hB2 HR hx;have hu:=Try.underlying26;go_enter Try.func118,Try.ntmps118;go_wp2_with fail
  go_region_law
   (first
    |(rw [if_pos (by rfl)];go_simp;go_at_call 104;refine (Qdi.calls _ _ _ _ HV.out).mono ?_;rintro e w2 ⟨rfl,hd⟩;obtain ⟨m,rfl⟩:=hd;dsimp only))
  all_goals
   go_wp2
   go_ret
   exact ⟨rfl,by repeat (first|exact Below.refl _ _|apply Qa|apply Qea)⟩
 ·
  exfalso;simp only [if_neg hx] at h;cases h
open Go.Proofs.Ytkgngggppcmpfaa.X in
set_option maxHeartbeats 800000 in
set_option maxRecDepth 100000 in
theorem Qbz.calls (k : Nat) (A0_0 : Option Addr) (c0_0 : Nat) (l0_0 : List Int) (r : List Int) (w : World) (hr0_0 : Kd.C (Kd.int .i64) w A0_0 l0_0.length l0_0) (hc0_0 : l0_0.length ≤ c0_0) (h : Qbz.f k l0_0 = some r) :
 Calls Try.prog 76 #[.agg #[.slice A0_0 l0_0.length c0_0]] w fun e w'=> ∃ v0_:Value,e= .returned (.agg #[v0_])∧Kd.R (Kd.int .i64) 3 w' w.heap.size (fun _=>True) v0_ r∧Below w.heap.size w w':=by
 unfold Qbz.f at h;have HF:=Aside0.mk h;have HR:=Aside0.mk hr0_0;have HC:=Aside0.mk hc0_0;clear h hr0_0 hc0_0;have hu:=Try.underlying26;go_enter Try.func76,Try.ntmps76;go_wp2_with fail;have B0:=Aside0.mk (Qc (Qc (Below.refl w.heap.size w) (.cells #[.slice A0_0 l0_0.length c0_0] 26)) (.cells #[.slice none 0 0] 26));refine (Qch.calls _ _ l0_0 _ _ (Kd.C_below HR.out B0.out) HC.out rfl).mono ?_;rintro e w1 ⟨rfl,hb⟩;have B1:=Aside0.mk (Qjw B0.out hb);have K0:=Aside0.mk (show w1.heap[w.heap.size]? =some (.cells #[.slice A0_0 l0_0.length c0_0] 26 (0,0)) from Qu (g:=w.heap.size) (o:= .cells #[.slice A0_0 l0_0.length c0_0] 26 (0,0)) (Qf (Qf4 _ _) _) hb);have K1:=Aside0.mk (show w1.heap[w.heap.size+1]? =some (.cells #[.slice none 0 0] 26 (0,0)) from Qu (g:=w.heap.size+1) (o:= .cells #[.slice none 0 0] 26 (0,0)) (by rw [show w.heap.size+1=(w.alloc (.cells #[.slice A0_0 l0_0.length c0_0] 26)).heap.size by simp];exact Qf4 _ _) hb);clear hb B0;go_wp2_with fail;refine (@Qb0.calls (Qbz.inst l0_0) 118 #[.pointer (some ⟨w.heap.size,0,none⟩), .pointer (some ⟨w1.heap.size,0,none⟩)] (Qis Try.func118 (by kernel_rfl) rfl) k (l0_0.length:Int) 0 r _ (fun j i b hb=>Qbz.lit A0_0 c0_0 l0_0 j i b w.heap.size w1.heap.size _ (Kd.C_below HR.out (Qc B1.out _)) HC.out (Nat.lt_of_lt_of_le (Qcu K0.out) (by simp)) (by simp) ((Qx (Qf K0.out _) 0).trans rfl) ((Qx (Qf4 _ _) 0).trans rfl) hb) HF.out).mono ?_;rintro e w2 ⟨v0,rfl,hR,hb⟩;have hR2:=Kd.R_lower hR (show w.heap.size≤_ from Nat.le_trans B1.out.size (by simp));have BK:=Aside0.mk (show w2.heap[w.heap.size+1]? =some (.cells #[.slice none 0 0] 26 (0,0)) from Qu (Qf K1.out _) hb);have B2:=Aside0.mk (Qjw (Qc B1.out (.cells #[.int .i64 (l0_0.length:Int)] 3)) hb);obtain ⟨Ao,co,eo⟩:=Kd.R_slice hR2;subst eo;have HO:=Aside0.mk hR2;have hcz:w2.cell? ⟨w.heap.size+1,0,none⟩=some (.slice none 0 0):=(Qx BK.out 0).trans rfl;have hfz:=Qp BK.out 0;clear hR hR2 hb K0 K1 B1;go_wp2;refine bodyPost_ret (results_cell_row rfl _ _ (w.heap.size+1) 26 #[.slice Ao r.length co] (0,0) _ rfl (by (with_reducible repeat (first|refine Qg ?_ _|refine Qh ?_|refine Qf ?_ _));refine Qcn (cs:= #[.slice none 0 0]) ?_ 0 _ rfl;(with_reducible repeat (first|refine Qg ?_ _|refine Qh ?_|refine Qf ?_ _));exact BK.out) Try.underlying26 rfl (by kernel_rfl)) rfl ?_;exact ⟨_,by first|rfl|(simp;done),by (with_reducible repeat (first|apply Kd.R_alloc|apply Kd.R_drewN|apply Kd.R_drew));exact Kd.R_mono (Kd.R_far (p:=⟨w.heap.size+1,0,none⟩) (Kd.R_types HO.out BK.out (by decide)) (fun _ hk=>hk.2) (.slice Ao r.length co)) (fun _ hk=>trivial),by repeat (first|(with_reducible first|exact B2.out|apply Qc|apply Qa|apply Qd|refine Qe ?_ (Nat.le_succ _))|exact B2.out)⟩
def Qcw.f (k : Nat) (l0_0 : List Int) : Option (List Int × Bool) := (Qbm.f k l0_0).bind fun t554 => (if t554 = true then ((Qbz.f k l0_0).bind fun t555 => (some (t555, true))) else (some (([] : List Int), false)))
theorem Qcw.mono : ∀ a0 k, LeO (Qcw.f k a0) (Qcw.f (k + 1) a0) := by
 intro a0 k;unfold Qcw.f
 repeat' first
  |(with_reducible exact Qbm.mono _ _)
  |(with_reducible exact Qbz.mono _ _)
  |(with_reducible exact LeO.refl _)
  |(with_reducible exact LeO.none _)
  |(with_reducible refine LeO.ite ?_ ?_)
  |(with_reducible refine LeO.bind ?_ (fun _=> ?_))
  |exact Qbm.mono _ _
  |exact Qbz.mono _ _
  |exact LeO.none _
  |refine LeO.ite ?_ ?_
  |refine LeO.bind ?_ (fun _=> ?_)
set_option maxHeartbeats 8000000 in
set_option maxRecDepth 100000 in
theorem Qcw.calls (k : Nat) (A0_0 : Option Addr) (c0_0 : Nat) (l0_0 : List Int) (r1 : List Int) (r2 : Bool) (w : World) (hr0_0 : Kd.C (Kd.int .i64) w A0_0 l0_0.length l0_0) (hc0_0 : l0_0.length ≤ c0_0) (h : Qcw.f k l0_0 = some (r1, r2)) :
 Calls Try.prog 16 #[.agg #[.slice A0_0 l0_0.length c0_0]] w fun e w'=> ∃ v0_:Value,e= .returned (.tuple #[.agg #[v0_], .bool r2])∧Kd.R (Kd.int .i64) 3 w' w.heap.size (fun _=>True) v0_ r1∧Below w.heap.size w w':=by
 have hu26:=Try.underlying26;have HR0_0:=Aside0.mk hr0_0;have HC0_0:=Aside0.mk hc0_0;clear hr0_0 hc0_0;have HB:=Aside0.mk (Below.refl w.heap.size w);have H:((Qbm.f k l0_0).bind fun t554=>(if t554=true then ((Qbz.f k l0_0).bind fun t555=>(some (t555,true))) else (some (([] :List Int),false))))=some (r1,r2):=h;clear h;replace H:=Option.bind_eq_some_iff.mp H;obtain ⟨t554,A20,H⟩:=H;replace H:(if t554=true then ((Qbz.f k l0_0).bind fun t555=>(some (t555,true))) else (some (([] :List Int),false)))=some (r1,r2):=H;have A2:=Aside0.mk A20;clear A20
 by_cases c3:t554=true
 ·
  subst c3;have H1:((Qbz.f k l0_0).bind fun t555=>(some (t555,true)))=some (r1,r2):=by rw [if_pos rfl] at H;exact H
  clear H;have H:=H1;clear H1;replace H:=Option.bind_eq_some_iff.mp H;obtain ⟨t555,A40,H⟩:=H;replace H:(some (t555,true))=some (r1,r2):=H;have A4:=Aside0.mk A40;clear A40;simp only [Option.some.injEq,Prod.mk.injEq] at H;obtain ⟨rfl,rfl⟩:=H;go_enter Try.func16,Try.ntmps16;go_wp2_with (first|((with_reducible refine Qbb (N:=1) rfl ?_);refine Qbg ?hg (N:=1) ?hd (cs:= #[.slice A0_0 l0_0.length c0_0]) (t:=26) ?hr ?_;(case hd=>rfl);(case hg=>rfl);(case hr=>first|(go_simp;done)|(go_simp;rfl));intro gb552 hg w5 hbox hb;have BK552:=Aside0.mk (hbox);have GW552:=Aside0.mk ((by rw [hg];exact (Qq (by repeat (first|(with_reducible first|exact HB.out|apply Qc|apply Qa|apply Qd)|exact HB.out))):w.heap.size≤gb552));have GE552:=GW552;replace HB:=Aside0.mk (Qj (by repeat (first|(with_reducible first|exact HB.out|apply Qc|apply Qa|apply Qd)|exact HB.out)) hb);clear hb hbox hg)|((with_reducible refine Qbb (N:=2) rfl ?_);refine Qbg ?hg (N:=2) ?hd (cs:= #[.slice none 0 0]) (t:=26) ?hr ?_;(case hd=>rfl);(case hg=>rfl);(case hr=>first|(go_simp;done)|(go_simp;rfl));intro gb553 hg w6 hbox hb;have BK553:=Aside0.mk (hbox);have GW553:=Aside0.mk ((by rw [hg];exact (Qq (by repeat (first|(with_reducible first|exact HB.out|apply Qc|apply Qa|apply Qd|refine Qe ?_ GE552.out)|exact HB.out))):w.heap.size≤gb553));have GE553:=GW553;replace HB:=Aside0.mk (Qj (by repeat (first|(with_reducible first|exact HB.out|apply Qc|apply Qa|apply Qd|refine Qe ?_ GE552.out)|exact HB.out)) hb);have NB552_553:=Aside0.mk ((by rw [hg];exact Nat.ne_of_lt (Qcu (g:=gb552) (o:= .cells #[.slice A0_0 l0_0.length c0_0] 26 (0,0)) (by (with_reducible repeat (first|refine Qg ?_ _|refine Qh ?_|refine Qf ?_ _));exact BK552.out)):gb552≠gb553));have NB553_552:=Aside0.mk ((by rw [hg];exact Nat.ne_of_gt (Qcu (g:=gb552) (o:= .cells #[.slice A0_0 l0_0.length c0_0] 26 (0,0)) (by (with_reducible repeat (first|refine Qg ?_ _|refine Qh ?_|refine Qf ?_ _));exact BK552.out)):gb553≠gb552));replace BK552:=Aside0.mk (Qu (g:=gb552) (o:= .cells #[.slice A0_0 l0_0.length c0_0] 26 (0,0)) (by (with_reducible repeat (first|refine Qg ?_ _|refine Qh ?_|refine Qf ?_ _));exact BK552.out) hb);clear hb hbox hg;have hnb7:=NB552_553.out;have hnc7:=NB553_552.out;have hcz8_0:w6.cell? ⟨gb552,0,none⟩=some (.slice A0_0 l0_0.length c0_0):=(Qx BK552.out 0).trans rfl;have hfz8_0:=Qp BK552.out 0)|((with_reducible refine Qk (f:=75) rfl ?_);refine Q6 (some 5) rfl rfl Try.func75 (by kernel_rfl) rfl #[.agg #[.slice A0_0 l0_0.length c0_0]] rfl (by (try simp only [List.map_toArray,List.map_cons,List.map_nil]);first|done|rfl|(simp only [List.length_drop,List.length_take];rfl)) ?_;(with_reducible refine (Qbm.calls k _ _ l0_0 true _ ?side1 ?side2 A2.out).mono ?_);(case side1=>repeat (first|exact (Kd.C_below HR0_0.out HB.out)|(with_reducible refine Kd.C_alloc ?_ _)|(with_reducible refine Kd.C_drewN ?_ _)|(with_reducible refine Kd.C_drew ?_)));(case side2=>exact HC0_0.out);rintro e w9 ⟨rfl,hb⟩;refine ⟨_,rfl,?_⟩;replace BK552:=Aside0.mk (Qu (g:=gb552) (o:= .cells #[.slice A0_0 l0_0.length c0_0] 26 (0,0)) (by (with_reducible repeat (first|refine Qg ?_ _|refine Qh ?_|refine Qf ?_ _));exact BK552.out) hb);replace BK553:=Aside0.mk (Qu (g:=gb553) (o:= .cells #[.slice none 0 0] 26 (0,0)) (by (with_reducible repeat (first|refine Qg ?_ _|refine Qh ?_|refine Qf ?_ _));exact BK553.out) hb);replace HB:=Aside0.mk (Qj (by repeat (first|(with_reducible first|exact HB.out|apply Qc|apply Qa|apply Qd|refine Qe ?_ GE552.out|refine Qe ?_ GE553.out)|exact HB.out)) hb);(try clear hb);(try clear hb2);(try clear hk);(try clear hi);have hcz10_0:w9.cell? ⟨gb552,0,none⟩=some (.slice A0_0 l0_0.length c0_0):=(Qx BK552.out 0).trans rfl;have hfz10_0:=Qp BK552.out 0)|((with_reducible refine Qk (f:=76) rfl ?_);refine Q6 (some 9) rfl rfl Try.func76 (by kernel_rfl) rfl #[.agg #[.slice A0_0 l0_0.length c0_0]] rfl (by (try simp only [List.map_toArray,List.map_cons,List.map_nil]);first|done|rfl|(simp only [List.length_drop,List.length_take];rfl)) ?_;(with_reducible refine (Qbz.calls k _ _ l0_0 t555 _ ?side1 ?side2 A4.out).mono ?_);(case side1=>repeat (first|exact (Kd.C_below HR0_0.out HB.out)|(with_reducible refine Kd.C_alloc ?_ _)|(with_reducible refine Kd.C_drewN ?_ _)|(with_reducible refine Kd.C_drew ?_)));(case side2=>exact HC0_0.out);rintro e w11 ⟨v556,rfl,ho0,hb⟩;refine ⟨_,rfl,?_⟩;have HO557:=Aside0.mk (Kd.R_lower ho0 (Qq (by repeat (first|(with_reducible first|exact HB.out|apply Qc|apply Qa|apply Qd|refine Qe ?_ GE552.out|refine Qe ?_ GE553.out)|exact HB.out))));replace BK552:=Aside0.mk (Qu (g:=gb552) (o:= .cells #[.slice A0_0 l0_0.length c0_0] 26 (0,0)) (by (with_reducible repeat (first|refine Qg ?_ _|refine Qh ?_|refine Qf ?_ _));exact BK552.out) hb);replace BK553:=Aside0.mk (Qu (g:=gb553) (o:= .cells #[.slice none 0 0] 26 (0,0)) (by (with_reducible repeat (first|refine Qg ?_ _|refine Qh ?_|refine Qf ?_ _));exact BK553.out) hb);replace HB:=Aside0.mk (Qj (by repeat (first|(with_reducible first|exact HB.out|apply Qc|apply Qa|apply Qd|refine Qe ?_ GE552.out|refine Qe ?_ GE553.out)|exact HB.out)) hb);(try clear hb);(try clear hb2);(try clear hk);(try clear hi);(try clear ho0);obtain ⟨Ao12,co12,eo12⟩:=Kd.R_slice HO557.out;subst eo12;have hcz13_0:w11.cell? ⟨gb553,0,none⟩=some (.slice none 0 0):=(Qx BK553.out 0).trans rfl;have hfz13_0:=Qp BK553.out 0))
  refine bodyPost_ret (Qeb rfl _ _ gb553 26 #[.slice Ao12 t555.length co12] (0,0) _ rfl (by (with_reducible repeat (first|refine Qg ?_ _|refine Qh ?_|refine Qf ?_ _));refine Qcn (cs:= #[.slice none 0 0]) ?_ 0 _ rfl;(with_reducible repeat (first|refine Qg ?_ _|refine Qh ?_|refine Qf ?_ _));exact BK553.out) Try.underlying26 rfl (by kernel_rfl)) rfl ?_;exact ⟨_,by first|rfl|(simp [Qm,Ql] <;>rfl)|(simp [*,Qm,Ql] <;>rfl),by (with_reducible repeat (first|apply Kd.R_alloc|apply Kd.R_drewN|apply Kd.R_drew));exact Kd.R_mono (Kd.R_far (p:=⟨gb553,0,none⟩) (Kd.R_types HO557.out BK553.out (by decide)) (fun _ hk=>hk.2) (.slice Ao12 t555.length co12)) (fun _ hk=>trivial),by repeat (first|(with_reducible first|exact HB.out|apply Qc|apply Qa|apply Qd|refine Qe ?_ GE552.out|refine Qe ?_ GE553.out)|exact HB.out)⟩
 ·
  replace c3:=Bool.eq_false_iff.mpr c3;subst c3;have H1:(some (([] :List Int),false))=some (r1,r2):=by rw [if_neg (show ¬ (false=true) by decide)] at H;exact H
  clear H;have H:=H1;clear H1;simp only [Option.some.injEq,Prod.mk.injEq] at H;obtain ⟨rfl,rfl⟩:=H;go_enter Try.func16,Try.ntmps16;go_wp2_with (first|((with_reducible refine Qbb (N:=1) rfl ?_);refine Qbg ?hg (N:=1) ?hd (cs:= #[.slice A0_0 l0_0.length c0_0]) (t:=26) ?hr ?_;(case hd=>rfl);(case hg=>rfl);(case hr=>first|(go_simp;done)|(go_simp;rfl));intro gb552 hg w14 hbox hb;have BK552:=Aside0.mk (hbox);have GW552:=Aside0.mk ((by rw [hg];exact (Qq (by repeat (first|(with_reducible first|exact HB.out|apply Qc|apply Qa|apply Qd)|exact HB.out))):w.heap.size≤gb552));have GE552:=GW552;replace HB:=Aside0.mk (Qj (by repeat (first|(with_reducible first|exact HB.out|apply Qc|apply Qa|apply Qd)|exact HB.out)) hb);clear hb hbox hg)|((with_reducible refine Qbb (N:=2) rfl ?_);refine Qbg ?hg (N:=2) ?hd (cs:= #[.slice none 0 0]) (t:=26) ?hr ?_;(case hd=>rfl);(case hg=>rfl);(case hr=>first|(go_simp;done)|(go_simp;rfl));intro gb553 hg w15 hbox hb;have BK553:=Aside0.mk (hbox);have GW553:=Aside0.mk ((by rw [hg];exact (Qq (by repeat (first|(with_reducible first|exact HB.out|apply Qc|apply Qa|apply Qd|refine Qe ?_ GE552.out)|exact HB.out))):w.heap.size≤gb553));have GE553:=GW553;replace HB:=Aside0.mk (Qj (by repeat (first|(with_reducible first|exact HB.out|apply Qc|apply Qa|apply Qd|refine Qe ?_ GE552.out)|exact HB.out)) hb);have NB552_553:=Aside0.mk ((by rw [hg];exact Nat.ne_of_lt (Qcu (g:=gb552) (o:= .cells #[.slice A0_0 l0_0.length c0_0] 26 (0,0)) (by (with_reducible repeat (first|refine Qg ?_ _|refine Qh ?_|refine Qf ?_ _));exact BK552.out)):gb552≠gb553));have NB553_552:=Aside0.mk ((by rw [hg];exact Nat.ne_of_gt (Qcu (g:=gb552) (o:= .cells #[.slice A0_0 l0_0.length c0_0] 26 (0,0)) (by (with_reducible repeat (first|refine Qg ?_ _|refine Qh ?_|refine Qf ?_ _));exact BK552.out)):gb553≠gb552));replace BK552:=Aside0.mk (Qu (g:=gb552) (o:= .cells #[.slice A0_0 l0_0.length c0_0] 26 (0,0)) (by (with_reducible repeat (first|refine Qg ?_ _|refine Qh ?_|refine Qf ?_ _));exact BK552.out) hb);clear hb hbox hg;have hnb16:=NB552_553.out;have hnc16:=NB553_552.out;have hcz17_0:w15.cell? ⟨gb552,0,none⟩=some (.slice A0_0 l0_0.length c0_0):=(Qx BK552.out 0).trans rfl;have hfz17_0:=Qp BK552.out 0)|((with_reducible refine Qk (f:=75) rfl ?_);refine Q6 (some 5) rfl rfl Try.func75 (by kernel_rfl) rfl #[.agg #[.slice A0_0 l0_0.length c0_0]] rfl (by (try simp only [List.map_toArray,List.map_cons,List.map_nil]);first|done|rfl|(simp only [List.length_drop,List.length_take];rfl)) ?_;(with_reducible refine (Qbm.calls k _ _ l0_0 false _ ?side1 ?side2 A2.out).mono ?_);(case side1=>repeat (first|exact (Kd.C_below HR0_0.out HB.out)|(with_reducible refine Kd.C_alloc ?_ _)|(with_reducible refine Kd.C_drewN ?_ _)|(with_reducible refine Kd.C_drew ?_)));(case side2=>exact HC0_0.out);rintro e w18 ⟨rfl,hb⟩;refine ⟨_,rfl,?_⟩;replace BK552:=Aside0.mk (Qu (g:=gb552) (o:= .cells #[.slice A0_0 l0_0.length c0_0] 26 (0,0)) (by (with_reducible repeat (first|refine Qg ?_ _|refine Qh ?_|refine Qf ?_ _));exact BK552.out) hb);replace BK553:=Aside0.mk (Qu (g:=gb553) (o:= .cells #[.slice none 0 0] 26 (0,0)) (by (with_reducible repeat (first|refine Qg ?_ _|refine Qh ?_|refine Qf ?_ _));exact BK553.out) hb);replace HB:=Aside0.mk (Qj (by repeat (first|(with_reducible first|exact HB.out|apply Qc|apply Qa|apply Qd|refine Qe ?_ GE552.out|refine Qe ?_ GE553.out)|exact HB.out)) hb);(try clear hb);(try clear hb2);(try clear hk);(try clear hi);have hcz19_0:w18.cell? ⟨gb553,0,none⟩=some (.slice none 0 0):=(Qx BK553.out 0).trans rfl;have hfz19_0:=Qp BK553.out 0));refine bodyPost_ret (Qeb rfl _ _ gb553 26 #[.slice none 0 0] (0,0) _ rfl (by (with_reducible repeat (first|refine Qg ?_ _|refine Qh ?_|refine Qf ?_ _));refine Qcn (cs:= #[.slice none 0 0]) ?_ 0 _ rfl;(with_reducible repeat (first|refine Qg ?_ _|refine Qh ?_|refine Qf ?_ _));exact BK553.out) Try.underlying26 rfl (by kernel_rfl)) rfl ?_;exact ⟨_,by first|rfl|(simp [Qm,Ql] <;>rfl)|(simp [*,Qm,Ql] <;>rfl),by first|exact Kd.R_nil _ _ _ _ _|exact Kd.N_nil _ _ _ _ _|exact Kd.V_nil _ _ _ _ _|exact Kd.Q_nil _ _ _ _ _|exact Kd.S_nil _ _ _ _ _,by repeat (first|(with_reducible first|exact HB.out|apply Qc|apply Qa|apply Qd|refine Qe ?_ GE552.out|refine Qe ?_ GE553.out)|exact HB.out)⟩
def Qct.f (k : Nat) (l0_0 : List Int) (l1 : List Int) (a2 : Int) : Option (Bool × Bool) := (Qcz.f k l0_0 a2).bind fun t559 => (if t559 = true then ((Qch.f l0_0).bind fun t560 => (if (l1.length : Int) = t560 then ((Q1.f k l0_0 l1 a2 0).bind fun t561 => (some (t561, true))) else (some (false, false)))) else (some (false, false)))
theorem Qct.mono : ∀ a0 a1 a2 k, LeO (Qct.f k a0 a1 a2) (Qct.f (k + 1) a0 a1 a2) := by
 intro a0 a1 a2 k;unfold Qct.f
 repeat' first
  |(with_reducible exact Q1.mono _ _ _ _ _)
  |(with_reducible exact Qcz.mono _ _ _)
  |(with_reducible exact LeO.refl _)
  |(with_reducible exact LeO.none _)
  |(with_reducible refine LeO.ite ?_ ?_)
  |(with_reducible refine LeO.bind ?_ (fun _=> ?_))
  |exact Q1.mono _ _ _ _ _
  |exact Qcz.mono _ _ _
  |exact LeO.none _
  |refine LeO.ite ?_ ?_
  |refine LeO.bind ?_ (fun _=> ?_)
set_option maxHeartbeats 8000000 in
set_option maxRecDepth 100000 in
theorem Qct.calls (k : Nat) (A0_0 : Option Addr) (c0_0 : Nat) (l0_0 : List Int) (A1 : Option Addr) (c1 : Nat) (l1 : List Int) (a2 : Int) (r1 : Bool) (r2 : Bool) (w : World) (hr0_0 : Kd.C (Kd.int .i64) w A0_0 l0_0.length l0_0) (hc0_0 : l0_0.length ≤ c0_0) (hr1 : Kd.C (Kd.int .i64) w A1 l1.length l1) (hc1 : l1.length ≤ c1) (h : Qct.f k l0_0 l1 a2 = some (r1, r2)) :
 Calls Try.prog 17 #[.agg #[.slice A0_0 l0_0.length c0_0], .slice A1 l1.length c1, .int .i64 a2] w fun e w'=>e= .returned (.tuple #[.bool r1, .bool r2])∧Below w.heap.size w w':=by
 have hu26:=Try.underlying26;have HR0_0:=Aside0.mk hr0_0;have HC0_0:=Aside0.mk hc0_0;clear hr0_0 hc0_0;have HR1:=Aside0.mk hr1;have HC1:=Aside0.mk hc1;clear hr1 hc1;have HB:=Aside0.mk (Below.refl w.heap.size w);have H:((Qcz.f k l0_0 a2).bind fun t559=>(if t559=true then ((Qch.f l0_0).bind fun t560=>(if (l1.length:Int)=t560 then ((Q1.f k l0_0 l1 a2 0).bind fun t561=>(some (t561,true))) else (some (false,false)))) else (some (false,false))))=some (r1,r2):=h;clear h;replace H:=Option.bind_eq_some_iff.mp H;obtain ⟨t559,A40,H⟩:=H;replace H:(if t559=true then ((Qch.f l0_0).bind fun t560=>(if (l1.length:Int)=t560 then ((Q1.f k l0_0 l1 a2 0).bind fun t561=>(some (t561,true))) else (some (false,false)))) else (some (false,false)))=some (r1,r2):=H;have A4:=Aside0.mk A40;clear A40
 by_cases c5:t559=true
 ·
  subst c5;have H1:((Qch.f l0_0).bind fun t560=>(if (l1.length:Int)=t560 then ((Q1.f k l0_0 l1 a2 0).bind fun t561=>(some (t561,true))) else (some (false,false))))=some (r1,r2):=by rw [if_pos rfl] at H;exact H
  clear H;have H:=H1;clear H1;replace H:=Option.bind_eq_some_iff.mp H;obtain ⟨t560,A60,H⟩:=H;replace H:(if (l1.length:Int)=t560 then ((Q1.f k l0_0 l1 a2 0).bind fun t561=>(some (t561,true))) else (some (false,false)))=some (r1,r2):=H;have A6:=Aside0.mk A60;clear A60
  by_cases c7:(l1.length:Int)=t560
  ·
   rw [if_pos c7] at H;have c7b0:((l1.length:Int)==t560)=true:=beq_iff_eq.mpr c7;have c7b1:((l1.length:Int) !=t560)=false:=bne_eq_false_iff_eq.mpr c7;clear c7;replace H:=Option.bind_eq_some_iff.mp H;obtain ⟨t561,A80,H⟩:=H;replace H:(some (t561,true))=some (r1,r2):=H;have A8:=Aside0.mk A80;clear A80;simp only [Option.some.injEq,Prod.mk.injEq] at H;obtain ⟨rfl,rfl⟩:=H;go_enter Try.func17,Try.ntmps17;go_wp2_with (first|((with_reducible refine Qbb (N:=3) rfl ?_);(try (refine Qdr (by rfl) ?_;dsimp only));refine Qbg ?hg (N:=3) ?hd (cs:= #[.slice A0_0 l0_0.length c0_0]) (t:=26) ?hr ?_;(case hd=>rfl);(case hg=>rfl);(case hr=>first|(go_simp;done)|(go_simp;rfl));intro gb558 hg w9 hbox hb;have BK558:=Aside0.mk (hbox);have GW558:=Aside0.mk ((by rw [hg];exact (Qq (by repeat (first|(with_reducible first|exact HB.out|apply Qc|apply Qa|apply Qd)|exact HB.out))):w.heap.size≤gb558));have GE558:=GW558;replace HB:=Aside0.mk (Qj (by repeat (first|(with_reducible first|exact HB.out|apply Qc|apply Qa|apply Qd)|exact HB.out)) hb);clear hb hbox hg;have hcz10_0:w9.cell? ⟨gb558,0,none⟩=some (.slice A0_0 l0_0.length c0_0):=(Qx BK558.out 0).trans rfl;have hfz10_0:=Qp BK558.out 0)|((with_reducible refine Qk (f:=77) rfl ?_);refine Q6 (some 10) rfl rfl Try.func77 (by kernel_rfl) rfl #[.agg #[.slice A0_0 l0_0.length c0_0], .int .i64 a2] rfl (by (try simp only [List.map_toArray,List.map_cons,List.map_nil]);first|done|rfl|(simp only [List.length_drop,List.length_take];rfl)) ?_;(with_reducible refine (Qcz.calls k _ _ l0_0 a2 true _ ?side1 ?side2 A4.out).mono ?_);(case side1=>repeat (first|exact (Kd.C_below HR0_0.out HB.out)|(with_reducible refine Kd.C_alloc ?_ _)|(with_reducible refine Kd.C_drewN ?_ _)|(with_reducible refine Kd.C_drew ?_)));(case side2=>exact HC0_0.out);rintro e w11 ⟨rfl,hb⟩;refine ⟨_,rfl,?_⟩;replace BK558:=Aside0.mk (Qu (g:=gb558) (o:= .cells #[.slice A0_0 l0_0.length c0_0] 26 (0,0)) (by (with_reducible repeat (first|refine Qg ?_ _|refine Qh ?_|refine Qf ?_ _));exact BK558.out) hb);replace HB:=Aside0.mk (Qj (by repeat (first|(with_reducible first|exact HB.out|apply Qc|apply Qa|apply Qd|refine Qe ?_ GE558.out)|exact HB.out)) hb);(try clear hb);(try clear hb2);(try clear hk);(try clear hi);have hcz12_0:w11.cell? ⟨gb558,0,none⟩=some (.slice A0_0 l0_0.length c0_0):=(Qx BK558.out 0).trans rfl;have hfz12_0:=Qp BK558.out 0)|(go_at_call 65;(with_reducible refine (Qch.calls _ _ l0_0 t560 _ ?side1 ?side2 A6.out).mono ?_);(case side1=>repeat (first|exact (Kd.C_below HR0_0.out HB.out)|(with_reducible refine Kd.C_alloc ?_ _)|(with_reducible refine Kd.C_drewN ?_ _)|(with_reducible refine Kd.C_drew ?_)));(case side2=>exact HC0_0.out);rintro e w13 ⟨rfl,hb⟩;replace BK558:=Aside0.mk (Qu (g:=gb558) (o:= .cells #[.slice A0_0 l0_0.length c0_0] 26 (0,0)) (by (with_reducible repeat (first|refine Qg ?_ _|refine Qh ?_|refine Qf ?_ _));exact BK558.out) hb);replace HB:=Aside0.mk (Qj (by repeat (first|(with_reducible first|exact HB.out|apply Qc|apply Qa|apply Qd|refine Qe ?_ GE558.out)|exact HB.out)) hb);(try clear hb);(try clear hb2);(try clear hk);(try clear hi);have hcz14_0:w13.cell? ⟨gb558,0,none⟩=some (.slice A0_0 l0_0.length c0_0):=(Qx BK558.out 0).trans rfl;have hfz14_0:=Qp BK558.out 0)|((with_reducible refine Qk (f:=78) rfl ?_);refine Q6 (some 22) rfl rfl Try.func78 (by kernel_rfl) rfl #[.agg #[.slice A0_0 l0_0.length c0_0], .slice A1 l1.length c1, .int .i64 a2, .int .i64 0] rfl (by (try simp only [List.map_toArray,List.map_cons,List.map_nil]);first|done|rfl|(simp only [List.length_drop,List.length_take];rfl)) ?_;(with_reducible refine (Q1.calls k _ _ l0_0 _ _ l1 a2 0 t561 _ ?side1 ?side2 ?side3 ?side4 A8.out).mono ?_);(case side1=>repeat (first|exact (Kd.C_below HR0_0.out HB.out)|(with_reducible refine Kd.C_alloc ?_ _)|(with_reducible refine Kd.C_drewN ?_ _)|(with_reducible refine Kd.C_drew ?_)));(case side2=>exact HC0_0.out);(case side3=>repeat (first|exact (Kd.C_below HR1.out HB.out)|(with_reducible refine Kd.C_alloc ?_ _)|(with_reducible refine Kd.C_drewN ?_ _)|(with_reducible refine Kd.C_drew ?_)));(case side4=>exact HC1.out);rintro e w15 ⟨rfl,hb⟩;refine ⟨_,rfl,?_⟩;replace BK558:=Aside0.mk (Qu (g:=gb558) (o:= .cells #[.slice A0_0 l0_0.length c0_0] 26 (0,0)) (by (with_reducible repeat (first|refine Qg ?_ _|refine Qh ?_|refine Qf ?_ _));exact BK558.out) hb);replace HB:=Aside0.mk (Qj (by repeat (first|(with_reducible first|exact HB.out|apply Qc|apply Qa|apply Qd|refine Qe ?_ GE558.out)|exact HB.out)) hb);(try clear hb);(try clear hb2);(try clear hk);(try clear hi)))
   go_ret2
   exact ⟨by first|rfl|(simp [Qm,Ql] <;>rfl)|(simp [*,Qm,Ql] <;>rfl),by repeat (first|(with_reducible first|exact HB.out|apply Qc|apply Qa|apply Qd|refine Qe ?_ GE558.out)|exact HB.out)⟩
  ·
   rw [if_neg c7] at H;have c7b0:((l1.length:Int)==t560)=false:=beq_eq_false_iff_ne.mpr c7;have c7b1:((l1.length:Int) !=t560)=true:=bne_iff_ne.mpr c7;simp only [Option.some.injEq,Prod.mk.injEq] at H;obtain ⟨rfl,rfl⟩:=H;go_enter Try.func17,Try.ntmps17;go_wp2_with (first|((with_reducible refine Qbb (N:=3) rfl ?_);(try (refine Qdr (by rfl) ?_;dsimp only));refine Qbg ?hg (N:=3) ?hd (cs:= #[.slice A0_0 l0_0.length c0_0]) (t:=26) ?hr ?_;(case hd=>rfl);(case hg=>rfl);(case hr=>first|(go_simp;done)|(go_simp;rfl));intro gb558 hg w16 hbox hb;have BK558:=Aside0.mk (hbox);have GW558:=Aside0.mk ((by rw [hg];exact (Qq (by repeat (first|(with_reducible first|exact HB.out|apply Qc|apply Qa|apply Qd)|exact HB.out))):w.heap.size≤gb558));have GE558:=GW558;replace HB:=Aside0.mk (Qj (by repeat (first|(with_reducible first|exact HB.out|apply Qc|apply Qa|apply Qd)|exact HB.out)) hb);clear hb hbox hg;have hcz17_0:w16.cell? ⟨gb558,0,none⟩=some (.slice A0_0 l0_0.length c0_0):=(Qx BK558.out 0).trans rfl;have hfz17_0:=Qp BK558.out 0)|((with_reducible refine Qk (f:=77) rfl ?_);refine Q6 (some 10) rfl rfl Try.func77 (by kernel_rfl) rfl #[.agg #[.slice A0_0 l0_0.length c0_0], .int .i64 a2] rfl (by (try simp only [List.map_toArray,List.map_cons,List.map_nil]);first|done|rfl|(simp only [List.length_drop,List.length_take];rfl)) ?_;(with_reducible refine (Qcz.calls k _ _ l0_0 a2 true _ ?side1 ?side2 A4.out).mono ?_);(case side1=>repeat (first|exact (Kd.C_below HR0_0.out HB.out)|(with_reducible refine Kd.C_alloc ?_ _)|(with_reducible refine Kd.C_drewN ?_ _)|(with_reducible refine Kd.C_drew ?_)));(case side2=>exact HC0_0.out);rintro e w18 ⟨rfl,hb⟩;refine ⟨_,rfl,?_⟩;replace BK558:=Aside0.mk (Qu (g:=gb558) (o:= .cells #[.slice A0_0 l0_0.length c0_0] 26 (0,0)) (by (with_reducible repeat (first|refine Qg ?_ _|refine Qh ?_|refine Qf ?_ _));exact BK558.out) hb);replace HB:=Aside0.mk (Qj (by repeat (first|(with_reducible first|exact HB.out|apply Qc|apply Qa|apply Qd|refine Qe ?_ GE558.out)|exact HB.out)) hb);(try clear hb);(try clear hb2);(try clear hk);(try clear hi);have hcz19_0:w18.cell? ⟨gb558,0,none⟩=some (.slice A0_0 l0_0.length c0_0):=(Qx BK558.out 0).trans rfl;have hfz19_0:=Qp BK558.out 0)|(go_at_call 65;(with_reducible refine (Qch.calls _ _ l0_0 t560 _ ?side1 ?side2 A6.out).mono ?_);(case side1=>repeat (first|exact (Kd.C_below HR0_0.out HB.out)|(with_reducible refine Kd.C_alloc ?_ _)|(with_reducible refine Kd.C_drewN ?_ _)|(with_reducible refine Kd.C_drew ?_)));(case side2=>exact HC0_0.out);rintro e w20 ⟨rfl,hb⟩;replace BK558:=Aside0.mk (Qu (g:=gb558) (o:= .cells #[.slice A0_0 l0_0.length c0_0] 26 (0,0)) (by (with_reducible repeat (first|refine Qg ?_ _|refine Qh ?_|refine Qf ?_ _));exact BK558.out) hb);replace HB:=Aside0.mk (Qj (by repeat (first|(with_reducible first|exact HB.out|apply Qc|apply Qa|apply Qd|refine Qe ?_ GE558.out)|exact HB.out)) hb);(try clear hb);(try clear hb2);(try clear hk);(try clear hi)))
   go_ret2
   exact ⟨by first|rfl|(simp [Qm,Ql] <;>rfl)|(simp [*,Qm,Ql] <;>rfl),by repeat (first|(with_reducible first|exact HB.out|apply Qc|apply Qa|apply Qd|refine Qe ?_ GE558.out)|exact HB.out)⟩
 ·
  replace c5:=Bool.eq_false_iff.mpr c5;subst c5;have H1:(some (false,false))=some (r1,r2):=by rw [if_neg (show ¬ (false=true) by decide)] at H;exact H
  clear H;have H:=H1;clear H1;simp only [Option.some.injEq,Prod.mk.injEq] at H;obtain ⟨rfl,rfl⟩:=H;go_enter Try.func17,Try.ntmps17;go_wp2_with (first|((with_reducible refine Qbb (N:=3) rfl ?_);(try (refine Qdr (by rfl) ?_;dsimp only));refine Qbg ?hg (N:=3) ?hd (cs:= #[.slice A0_0 l0_0.length c0_0]) (t:=26) ?hr ?_;(case hd=>rfl);(case hg=>rfl);(case hr=>first|(go_simp;done)|(go_simp;rfl));intro gb558 hg w21 hbox hb;have BK558:=Aside0.mk (hbox);have GW558:=Aside0.mk ((by rw [hg];exact (Qq (by repeat (first|(with_reducible first|exact HB.out|apply Qc|apply Qa|apply Qd)|exact HB.out))):w.heap.size≤gb558));have GE558:=GW558;replace HB:=Aside0.mk (Qj (by repeat (first|(with_reducible first|exact HB.out|apply Qc|apply Qa|apply Qd)|exact HB.out)) hb);clear hb hbox hg;have hcz22_0:w21.cell? ⟨gb558,0,none⟩=some (.slice A0_0 l0_0.length c0_0):=(Qx BK558.out 0).trans rfl;have hfz22_0:=Qp BK558.out 0)|((with_reducible refine Qk (f:=77) rfl ?_);refine Q6 (some 10) rfl rfl Try.func77 (by kernel_rfl) rfl #[.agg #[.slice A0_0 l0_0.length c0_0], .int .i64 a2] rfl (by (try simp only [List.map_toArray,List.map_cons,List.map_nil]);first|done|rfl|(simp only [List.length_drop,List.length_take];rfl)) ?_;(with_reducible refine (Qcz.calls k _ _ l0_0 a2 false _ ?side1 ?side2 A4.out).mono ?_);(case side1=>repeat (first|exact (Kd.C_below HR0_0.out HB.out)|(with_reducible refine Kd.C_alloc ?_ _)|(with_reducible refine Kd.C_drewN ?_ _)|(with_reducible refine Kd.C_drew ?_)));(case side2=>exact HC0_0.out);rintro e w23 ⟨rfl,hb⟩;refine ⟨_,rfl,?_⟩;replace BK558:=Aside0.mk (Qu (g:=gb558) (o:= .cells #[.slice A0_0 l0_0.length c0_0] 26 (0,0)) (by (with_reducible repeat (first|refine Qg ?_ _|refine Qh ?_|refine Qf ?_ _));exact BK558.out) hb);replace HB:=Aside0.mk (Qj (by repeat (first|(with_reducible first|exact HB.out|apply Qc|apply Qa|apply Qd|refine Qe ?_ GE558.out)|exact HB.out)) hb);(try clear hb);(try clear hb2);(try clear hk);(try clear hi)))
  go_ret2
  exact ⟨by first|rfl|(simp [Qm,Ql] <;>rfl)|(simp [*,Qm,Ql] <;>rfl),by repeat (first|(with_reducible first|exact HB.out|apply Qc|apply Qa|apply Qd|refine Qe ?_ GE558.out)|exact HB.out)⟩
def Qca.f (k : Nat) (l0_0 : List Int) (l1 : List Int) (a2 : Int) : Option (List Int × Bool) := (Qv.f k l0_0 l1 a2 (-1)).bind fun bt563 => (some (bt563.1, bt563.2))
theorem Qca.mono : ∀ a0 a1 a2 k, LeO (Qca.f k a0 a1 a2) (Qca.f (k + 1) a0 a1 a2) := by
 intro a0 a1 a2 k;unfold Qca.f
 repeat' first
  |(with_reducible exact Qv.mono _ _ _ _ _)
  |(with_reducible exact LeO.refl _)
  |(with_reducible exact LeO.none _)
  |(with_reducible refine LeO.ite ?_ ?_)
  |(with_reducible refine LeO.bind ?_ (fun _=> ?_))
  |exact Qv.mono _ _ _ _ _
  |exact LeO.none _
  |refine LeO.ite ?_ ?_
  |refine LeO.bind ?_ (fun _=> ?_)
set_option maxHeartbeats 8000000 in
set_option maxRecDepth 100000 in
theorem Qca.calls (k : Nat) (A0_0 : Option Addr) (c0_0 : Nat) (l0_0 : List Int) (A1 : Option Addr) (c1 : Nat) (l1 : List Int) (a2 : Int) (r1 : List Int) (r2 : Bool) (w : World) (hr0_0 : Kd.C (Kd.int .i64) w A0_0 l0_0.length l0_0) (hc0_0 : l0_0.length ≤ c0_0) (hr1 : Kd.C (Kd.int .i64) w A1 l1.length l1) (hc1 : l1.length ≤ c1) (h : Qca.f k l0_0 l1 a2 = some (r1, r2)) :
 Calls Try.prog 18 #[.agg #[.slice A0_0 l0_0.length c0_0], .slice A1 l1.length c1, .int .i64 a2] w fun e w'=> ∃ v0_:Value,e= .returned (.tuple #[v0_, .bool r2])∧Kd.R (Kd.int .i64) 3 w' w.heap.size (fun _=>True) v0_ r1∧Below w.heap.size w w':=by
 have hu26:=Try.underlying26;have HR0_0:=Aside0.mk hr0_0;have HC0_0:=Aside0.mk hc0_0;clear hr0_0 hc0_0;have HR1:=Aside0.mk hr1;have HC1:=Aside0.mk hc1;clear hr1 hc1;have HB:=Aside0.mk (Below.refl w.heap.size w);have H:((Qv.f k l0_0 l1 a2 (-1)).bind fun bt563=>(some (bt563.1,bt563.2)))=some (r1,r2):=h;clear h;replace H:=Option.bind_eq_some_iff.mp H;obtain ⟨⟨t563,t566⟩,A40,H⟩:=H;replace H:(some (t563,t566))=some (r1,r2):=H;have A4:=Aside0.mk A40;clear A40;simp only [Option.some.injEq,Prod.mk.injEq] at H;obtain ⟨rfl,rfl⟩:=H;go_enter Try.func18,Try.ntmps18;go_wp2_with (first|((with_reducible refine Qbb (N:=3) rfl ?_);refine Qbg ?hg (N:=3) ?hd (cs:= #[.slice A0_0 l0_0.length c0_0]) (t:=26) ?hr ?_;(case hd=>rfl);(case hg=>rfl);(case hr=>first|(go_simp;done)|(go_simp;rfl));intro gb562 hg w5 hbox hb;have BK562:=Aside0.mk (hbox);have GW562:=Aside0.mk ((by rw [hg];exact (Qq (by repeat (first|(with_reducible first|exact HB.out|apply Qc|apply Qa|apply Qd)|exact HB.out))):w.heap.size≤gb562));have GE562:=GW562;replace HB:=Aside0.mk (Qj (by repeat (first|(with_reducible first|exact HB.out|apply Qc|apply Qa|apply Qd)|exact HB.out)) hb);clear hb hbox hg;have hcz6_0:w5.cell? ⟨gb562,0,none⟩=some (.slice A0_0 l0_0.length c0_0):=(Qx BK562.out 0).trans rfl;have hfz6_0:=Qp BK562.out 0)|((with_reducible refine Qk (f:=33) rfl ?_);refine Q6 (some 11) rfl rfl Try.func33 (by kernel_rfl) rfl #[.agg #[.slice A0_0 l0_0.length c0_0], .slice A1 l1.length c1, .int .i64 a2, .int .i64 (-1)] rfl (by (try simp only [List.map_toArray,List.map_cons,List.map_nil]);first|done|rfl|(simp only [List.length_drop,List.length_take];rfl)) ?_;(with_reducible refine (Qv.calls k _ _ l0_0 _ _ l1 a2 (-1) t563 t566 _ ?side1 ?side2 ?side3 ?side4 A4.out).mono ?_);(case side1=>repeat (first|exact (Kd.C_below HR0_0.out HB.out)|(with_reducible refine Kd.C_alloc ?_ _)|(with_reducible refine Kd.C_drewN ?_ _)|(with_reducible refine Kd.C_drew ?_)));(case side2=>exact HC0_0.out);(case side3=>repeat (first|exact (Kd.C_below HR1.out HB.out)|(with_reducible refine Kd.C_alloc ?_ _)|(with_reducible refine Kd.C_drewN ?_ _)|(with_reducible refine Kd.C_drew ?_)));(case side4=>exact HC1.out);rintro e w7 ⟨v564,rfl,ho0,hb⟩;refine ⟨_,rfl,?_⟩;have HO565:=Aside0.mk (Kd.R_lower ho0 (Qq (by repeat (first|(with_reducible first|exact HB.out|apply Qc|apply Qa|apply Qd|refine Qe ?_ GE562.out)|exact HB.out))));replace BK562:=Aside0.mk (Qu (g:=gb562) (o:= .cells #[.slice A0_0 l0_0.length c0_0] 26 (0,0)) (by (with_reducible repeat (first|refine Qg ?_ _|refine Qh ?_|refine Qf ?_ _));exact BK562.out) hb);replace HB:=Aside0.mk (Qj (by repeat (first|(with_reducible first|exact HB.out|apply Qc|apply Qa|apply Qd|refine Qe ?_ GE562.out)|exact HB.out)) hb);(try clear hb);(try clear hb2);(try clear hk);(try clear hi);(try clear ho0)))
 go_ret2
 exact ⟨_,by first|rfl|(simp [Qm,Ql] <;>rfl)|(simp [*,Qm,Ql] <;>rfl),by (with_reducible repeat (first|apply Kd.R_alloc|apply Kd.R_drewN|apply Kd.R_drew));exact HO565.out,by repeat (first|(with_reducible first|exact HB.out|apply Qc|apply Qa|apply Qd|refine Qe ?_ GE562.out)|exact HB.out)⟩
end Go.Proofs.Ytkgngggppcmpfaa.L
end
