/- Laws about the given program: the law FnRowvacuation answers true for every input that its row lets in; no condition is added to the given statement. Contracts of the Go functions that it reaches, and the plain proof over lists. -/
import Derived.Test.YtkgngggppcmpfaaGreatWFnRowvacuation0
import Derived.Test.YtkgngggppcmpfaaGreatKFnRowvacuation0
import Derived.Test.YtkgngggppcmpfaaGreatKFnRowvacuation1
import Derived.Test.YtkgngggppcmpfaaGreatKFnRowvacuation2
import Derived.Test.YtkgngggppcmpfaaGreatKFnRowvacuation3
import Derived.Test.YtkgngggppcmpfaaGreatKFnRowvacuation4
import Derived.Test.YtkgngggppcmpfaaGreatKFnRowvacuation5
import Derived.Test.YtkgngggppcmpfaaGreatKFnRowvacuation6
section
namespace Go.Proofs.YtkgngggppcmpfaaGreat.L
open Go.RowKit Go.Proofs.YtkgngggppcmpfaaGreatW.PrintWords Go.Proofs.YtkgngggppcmpfaaGreatW.PrintLast Go.Proofs.YtkgngggppcmpfaaGreatW.PrintMore Go.Proofs.YtkgngggppcmpfaaGreat.X
attribute [local go_sem] Qt Qv Q2 Q3 Qm Qn Qu Qw
set_option linter.unusedVariables false
set_option linter.unusedSimpArgs false
def Qbo.j0 : Nat → Int → Bool → List Int → Int → Int → List Int → Option (List Int × Int × Int × Int)
 |0,_,_,_,_,_,_=>none
 |k+1,x7,x25,x1000,x1001,x1002,x663000=>if x25=true then ((Qck.f x1000 x1001 x1002 x663000).bind fun bt671=>((Qcd.f k x663000 (Go.bits .and .i64 x7 bt671.1)).bind fun t674=>((Qcj.f k x663000 t674).bind fun t675=>(some (x663000,t675,bt671.2.1,bt671.2.2))))) else (some (x663000,x7,x1001,x1002))
def Qbo.f (k : Nat) (s0_0 : List Int) (s0_1 : Int) (s0_2 : Int) (a1 : Int) : Option (List Int × Int × Int × Int) := (Qbl.f k s0_0 s0_1 s0_2 a1).bind fun bt657 => ((Qck.f s0_0 bt657.2.1 bt657.2.2 bt657.1).bind fun bt663 => ((Qbb.f k bt657.1).bind fun t666 => (if t666 = true then ((Qdo.f bt657.1 bt663.1).bind fun t667 => (if t667 = true then ((Qcv.f s0_0 bt663.2.1 bt663.2.2 12).bind fun bt668 => (Qbo.j0 k bt663.1 (!bt668.1) s0_0 bt668.2.1 bt668.2.2 bt657.1)) else (Qbo.j0 k bt663.1 false s0_0 bt663.2.1 bt663.2.2 bt657.1))) else (Qbo.j0 k bt663.1 false s0_0 bt663.2.1 bt663.2.2 bt657.1))))
theorem Qbo.mono_l : ∀ k, (∀ y0 y1 y2 y3 y4 y5, LeO (Qbo.j0 k y0 y1 y2 y3 y4 y5) (Qbo.j0 (k + 1) y0 y1 y2 y3 y4 y5))
 |0=>fun _ _ _ _ _ _ r h=>by simp [Qbo.j0] at h
 |k+1=>by
  have ih0:=Qbo.mono_l k
  ·
   intro y0 y1 y2 y3 y4 y5;unfold Qbo.j0
   repeat' first
   |(with_reducible exact ih0 _ _ _ _ _ _)
   |(with_reducible exact Qbl.mono _ _ _ _ _)
   |(with_reducible exact Qcj.mono _ _ _)
   |(with_reducible exact Qbb.mono _ _)
   |(with_reducible exact Qcd.mono _ _ _)
   |(with_reducible exact LeO.refl _)
   |(with_reducible exact LeO.none _)
   |(with_reducible refine LeO.ite ?_ ?_)
   |(with_reducible refine LeO.bind ?_ (fun _=> ?_))
   |exact ih0 _ _ _ _ _ _
   |exact Qbl.mono _ _ _ _ _
   |exact Qcj.mono _ _ _
   |exact Qbb.mono _ _
   |exact Qcd.mono _ _ _
   |exact LeO.none _
   |refine LeO.ite ?_ ?_
   |refine LeO.bind ?_ (fun _=> ?_)
theorem Qbo.mono : ∀ a0 a1 a2 a3 k, LeO (Qbo.f k a0 a1 a2 a3) (Qbo.f (k + 1) a0 a1 a2 a3) := by
 intro a0 a1 a2 a3 k;have ih0:=Qbo.mono_l k;unfold Qbo.f
 repeat' (with_reducible first|apply ih0|apply Qbl.mono|apply Qcj.mono|apply Qbb.mono|apply Qcd.mono|exact LeO.refl _|exact LeO.none _|refine LeO.ite ?_ ?_|refine LeO.bind ?_ (fun _=> ?_))
def Qbo.T4 : Bool × List (List Nat × List Nat) := (true, [([], []), ([], []), ([], []), ([], []), ([], []), ([3, 4], [3, 4]), ([2, 5], [2, 5]), ([1, 6, 5], [1, 6]), ([0, 7, 7], [0, 7]), ([8, 8, 0, 1, 2, 3, 4, 5, 6, 7, 8], [2, 8])])
def Qbo.B4 : List Nat := [0, 0, 0, 0, 0, 24, 60, 126, 255, 511]
theorem Qbo.tab4 : rtab .any (Qf2 Tryz.f193 4) = Qbo.T4 := by kernel_rfl
theorem Qbo.bits4 : Qd9 Qbo.T4.2 Qbo.B4 = true := by kernel_rfl
set_option maxHeartbeats 8000000 in
set_option maxRecDepth 100000 in
theorem Qbo.calls (k : Nat) (g : Nat) (s0_0 : List Int) (s0_1 : Int) (s0_2 : Int) (a1 : Int) (r1 : List Int) (r2 : Int) (r3 : Int) (r4 : Int) (w0 w : World) (hI : Qb w0 w g s0_0 s0_1 s0_2) (hB : Below w0.heap.size w0 w) (h : Qbo.f k s0_0 s0_1 s0_2 a1 = some (r1, r2, r3, r4)) :
 Calls Tryz.prog 193 #[.pointer (some ⟨g,0,none⟩), .int .i64 a1] w fun e w'=> ∃ v0_:Value,e= .returned (.tuple #[.agg #[v0_], .int .i64 r2])∧Kd.R (Kd.int .i64) 3 w' w.heap.size (fun _=>True) v0_ r1∧Qb w0 w' g s0_0 r3 r4∧Below w0.heap.size w0 w'∧Qg w w' g none:=by
 have hu26:=Tryz.underlying26;have HI0:=Aside0.mk hI;have HK:=Aside0.mk (Qg.refl w g none);have HL:=Aside0.mk hB.size;clear hI;have HW0:=Aside0.mk hB.size;have HB:=Aside0.mk hB;clear hB;have H:((Qbl.f k s0_0 s0_1 s0_2 a1).bind fun bt657=>((Qck.f s0_0 bt657.2.1 bt657.2.2 bt657.1).bind fun bt663=>((Qbb.f k bt657.1).bind fun t666=>(if t666=true then ((Qdo.f bt657.1 bt663.1).bind fun t667=>(if t667=true then ((Qcv.f s0_0 bt663.2.1 bt663.2.2 12).bind fun bt668=>(Qbo.j0 k bt663.1 (!bt668.1) s0_0 bt668.2.1 bt668.2.2 bt657.1)) else (Qbo.j0 k bt663.1 false s0_0 bt663.2.1 bt663.2.2 bt657.1))) else (Qbo.j0 k bt663.1 false s0_0 bt663.2.1 bt663.2.2 bt657.1)))))=some (r1,r2,r3,r4):=h;clear h;obtain ⟨⟨t657,t660,t661⟩,A3,H⟩:=bs H;(try dsimp only at H)
 obtain ⟨⟨t663,t664,t665⟩,A4,H⟩:=bs H;(try dsimp only at H)
 have HC5:=Aside0.mk H;clear H;go_enter Tryz.func193,Tryz.ntmps193;go_upto_region 3 with (first|(refine bE (N:=4) (cs:= #[.slice none 0 0]) (t:=26) ?_;intro gb656 hg w6 hbox hb;replace HB:=Aside0.mk (Qa (Qb.vB HB) hb);have BK656:=Aside0.mk (hbox);have GW656:=Aside0.mk ((by rw [hg];exact (Qb3 (w:=w) (g:=g) (row:=none) (vK HK)):w.heap.size≤gb656));have GE656:=Aside0.mk ((Nat.le_trans HW0.out (by rw [hg];exact (Qb3 (w:=w) (g:=g) (row:=none) (vK HK)):w.heap.size≤gb656):w0.heap.size≤gb656));replace HK:=Aside0.mk (Qg.trans (vK HK) (Qg.of_below hb g none) (.inl rfl));have NB0_656:=Aside0.mk ((by rw [hg];exact Nat.ne_of_lt (Qb.lt (show Qb w0 _ g s0_0 s0_1 s0_2 from (Qb.vI HI0))):g≠gb656));have NB656_0:=Aside0.mk ((by rw [hg];exact Nat.ne_of_gt (Qb.lt (show Qb w0 _ g s0_0 s0_1 s0_2 from (Qb.vI HI0))):gb656≠g));replace HI0:=Aside0.mk (Qb.below (Qb.vI HI0) hb);clear hb hbox hg)|(refine gA (some 10) Tryz.func181 #[.pointer (some ⟨g,0,none⟩), .int .i64 a1] ?_;(with_reducible refine (Qbl.calls k g s0_0 s0_1 s0_2 a1 t657 t660 t661 w0 _ (Qb.vI HI0) (Qb.vB HB) A3.out).mono ?_);rintro e w7 ⟨v658,rfl,ho0,hi,hb,hk⟩;refine ⟨_,rfl,?_⟩;replace BK656:=Aside0.mk (Qg.blk hk (g':=gb656) (o:= .cells #[.slice none 0 0] 26 (0,0)) (uK BK656) NB656_0.out (by simp));have HO659:=Aside0.mk (Kd.R_lower ho0 (Qb3 (w:=w) (g:=g) (row:=none) (vK HK)));replace HK:=Aside0.mk (Qg.trans (vK HK) hk (.inl rfl));replace HB:=Aside0.mk (hb);replace HI0:=Aside0.mk (hi);(try clear hb hk hi ho0))|(refine bE (N:=6) (cs:= #[.slice none 0 0]) (t:=26) ?_;intro gb662 hg w8 hbox hb;replace HO659:=Aside0.mk (Kd.R_below (uR HO659) hb);replace HB:=Aside0.mk (Qa (Qb.vB HB) hb);have BK662:=Aside0.mk (hbox);have GW662:=Aside0.mk ((by rw [hg];exact (Qb3 (w:=w) (g:=g) (row:=none) (vK HK)):w.heap.size≤gb662));have GE662:=Aside0.mk ((Nat.le_trans HW0.out (by rw [hg];exact (Qb3 (w:=w) (g:=g) (row:=none) (vK HK)):w.heap.size≤gb662):w0.heap.size≤gb662));replace HK:=Aside0.mk (Qg.trans (vK HK) (Qg.of_below hb g none) (.inl rfl));have NB656_662:=Aside0.mk ((by rw [hg];exact Nat.ne_of_lt (Qcc (uK BK656)):gb656≠gb662));have NB662_656:=Aside0.mk ((by rw [hg];exact Nat.ne_of_gt (Qcc (uK BK656)):gb662≠gb656));replace BK656:=Aside0.mk (Qc (uK BK656) hb);have NB0_662:=Aside0.mk ((by rw [hg];exact Nat.ne_of_lt (Qb.lt (show Qb w0 _ g s0_0 t660 t661 from (Qb.vI HI0))):g≠gb662));have NB662_0:=Aside0.mk ((by rw [hg];exact Nat.ne_of_gt (Qb.lt (show Qb w0 _ g s0_0 t660 t661 from (Qb.vI HI0))):gb662≠g));replace HI0:=Aside0.mk (Qb.below (Qb.vI HI0) hb);clear hb hbox hg;obtain ⟨Ao9,co9,eo9⟩:=Kd.R_slice HO659.out;subst eo9;have hnb10:=NB662_656.out;have hnc10:=NB656_662.out;have hnb11:=NB662_0.out;have hnc11:=NB0_662.out;have hcz12_0:=bC BK662;have hfz12_0:=Qf BK662.out 0)|(refine gA (some 13) Tryz.func297 #[.pointer (some ⟨g,0,none⟩), .agg #[.slice Ao9 t657.length co9]] ?_;(with_reducible refine (Qck.calls g s0_0 t660 t661 _ _ t657 t663 t664 t665 w0 _ (Qb.vI HI0) (Qb.vB HB) ?side3 ?side4 ?side5 A4.out).mono ?_);(case side3=>refine (Kd.R_reads' (e:=3) (base:=w.heap.size) (ok:=fun k_=>True) (n:=t657.length) (c:=co9) ?_).2.2;exact (rF HO659 BK662 (.slice Ao9 t657.length co9)));(case side4=>exact (Kd.R_reads' HO659.out).2.1);(case side5=>exact Qgm (Qb.own_ne HI0.out HO659.out (by decide)));rintro e w13 ⟨rfl,hi,hb,hk⟩;refine ⟨_,rfl,?_⟩;replace BK656:=Aside0.mk (Qg.blk hk (g':=gb656) (o:= .cells #[.slice none 0 0] 26 (0,0)) kF NB656_0.out (by simp));replace HO659:=Aside0.mk (Kd.R_mono (Kd.R_keep (Qb.apart (show Qb w0 _ g s0_0 t660 t661 from (Qb.vI HI0)) (rF HO659 BK662 (.slice Ao9 t657.length co9)) (by decide)) hk (fun _ h=>h.2)) (fun _ h=>h.1));replace BK662:=Aside0.mk (Qg.blk hk (g':=gb662) (o:= .cells #[.slice Ao9 t657.length co9] 26 (0,0)) (by (with_reducible repeat (first|refine Qk ?_ _|refine Qj ?_|refine Qi ?_ _));refine Qcs (cs:= #[.slice none 0 0]) ?_ 0 _ rfl;(with_reducible repeat (first|refine Qk ?_ _|refine Qj ?_|refine Qi ?_ _));exact BK662.out) NB662_0.out (by simp));replace HK:=Aside0.mk (Qg.trans (vK HK) hk (.inl rfl));replace HB:=Aside0.mk (hb);replace HI0:=Aside0.mk (hi);(try clear hb hk hi)))
 (try simp only [Act.put,List.setIfInBounds_toArray,List.set_cons_zero,List.set_cons_succ])
 go_cut [25] (fun v25 wc=> ∃ (kq:Nat) (x25_4:Bool) (x1001_4:Int) (x1002_4:Int),v25= .bool x25_4∧Aside0 (Qbo.j0 kq t663 x25_4 s0_0 x1001_4 x1002_4 t657=some (r1,r2,r3,r4))∧Aside0 (kq≤k)∧Aside0 (Kd.R (Kd.int .i64) 3 wc w.heap.size (fun _=>True) (.slice Ao9 t657.length co9) t657)∧Aside0 (wc.heap[gb656]? =some (.cells #[(.slice none 0 0)] 26 (0,0)))∧Aside0 (wc.heap[gb662]? =some (.cells #[(.slice Ao9 t657.length co9)] 26 (0,0)))∧Aside0 (Qb w0 wc g s0_0 x1001_4 x1002_4)∧Aside0 (Qg w wc g none)∧Aside0 (Below w0.heap.size w0 wc))
 case first=>
  have H:=HC5.out;clear HC5;obtain ⟨t666,A14,H⟩:=bs H;(try dsimp only at H)
  by_cases c15:t666=true
  ·
   subst c15;rw [if_pos rfl] at H;obtain ⟨t667,A16,H⟩:=bs H;(try dsimp only at H)
   by_cases c17:t667=true
   ·
    subst c17;rw [if_pos rfl] at H;obtain ⟨⟨t668,t669,t670⟩,A18,H⟩:=bs H;(try dsimp only at H)
    have H':=Aside0.mk H;clear H;have hnb19:=NB662_656.out;have hnc19:=NB656_662.out;have hnb20:=NB662_0.out;have hnc20:=NB0_662.out;have hcz21_0:=bC BK662;have hfz21_0:=Qf BK662.out 0;go_wp2_with (first|(refine gA (some 15) Tryz.func183 #[.agg #[.slice Ao9 t657.length co9]] ?_;(with_reducible refine (Qbb.calls k _ _ t657 true _ (uE HO659) ?side2 A14.out).mono ?_);(case side2=>exact (Kd.R_reads' HO659.out).2.1);rintro e w22 ⟨rfl,hb⟩;refine ⟨_,rfl,?_⟩;replace HO659:=Aside0.mk (Kd.R_below (uR HO659) hb);replace HI0:=Aside0.mk (Qb.below (Qb.u HI0) hb);replace BK656:=Aside0.mk (Qc (uK BK656) hb);replace BK662:=Aside0.mk (Qc (uK BK662) hb);replace HK:=Aside0.mk (Qg.trans (vK HK) (Qg.of_below hb g none) (.inl rfl));replace HB:=Aside0.mk (Qa (uB HB) hb);(try clear hb);have hcz23_0:=bC BK662;have hfz23_0:=Qf BK662.out 0)|(go_at_call 199;(with_reducible refine (Qdo.calls _ _ t657 t663 true _ (uE HO659) ?side2 A16.out).mono ?_);(case side2=>exact (Kd.R_reads' HO659.out).2.1);rintro e w24 ⟨rfl,hb⟩;replace HO659:=Aside0.mk (Kd.R_below (uR HO659) hb);replace HI0:=Aside0.mk (Qb.below (Qb.u HI0) hb);replace BK656:=Aside0.mk (Qc (uK BK656) hb);replace BK662:=Aside0.mk (Qc (uK BK662) hb);replace HK:=Aside0.mk (Qg.trans (vK HK) (Qg.of_below hb g none) (.inl rfl));replace HB:=Aside0.mk (Qa (uB HB) hb);(try clear hb))|(go_at_call 161;(with_reducible refine (Qcv.calls g s0_0 t664 t665 12 t668 t669 t670 w0 _ (Qb.u HI0) (uB HB) A18.out).mono ?_);rintro e w25 ⟨rfl,hi,hb,hk⟩;replace BK656:=Aside0.mk (Qg.blk hk (g':=gb656) (o:= .cells #[.slice none 0 0] 26 (0,0)) (uK BK656) NB656_0.out (by simp));replace HO659:=Aside0.mk (Kd.R_mono (Kd.R_keep (Qb.apart (show Qb w0 _ g s0_0 t664 t665 from Qb.u HI0) (uR HO659) (by decide)) hk (fun _ h=>h.2)) (fun _ h=>h.1));replace BK662:=Aside0.mk (Qg.blk hk (g':=gb662) (o:= .cells #[.slice Ao9 t657.length co9] 26 (0,0)) (uK BK662) NB662_0.out (by simp));replace HK:=Aside0.mk (Qg.trans (vK HK) hk (.inl rfl));replace HB:=Aside0.mk (hb);replace HI0:=Aside0.mk (hi);(try clear hb hk hi)))
    go_meet
    case rel=>exact ⟨_,(!t668),(t669),(t670),(by first|rfl|(simp;done)|(simp [*];done)),H',⟨by first|omega|exact Nat.le_refl _⟩,⟨uR HO659⟩,⟨uK BK656⟩,⟨uK BK662⟩,⟨Qb.u HI0⟩,⟨(vK HK)⟩,⟨uB HB⟩⟩
   ·
    replace c17:=Bool.eq_false_iff.mpr c17;subst c17;rw [if_neg (show ¬ (false=true) by decide)] at H;have H':=Aside0.mk H;clear H;have hnb26:=NB662_656.out;have hnc26:=NB656_662.out;have hnb27:=NB662_0.out;have hnc27:=NB0_662.out;have hcz28_0:=bC BK662;have hfz28_0:=Qf BK662.out 0;go_wp2_with (first|(refine gA (some 15) Tryz.func183 #[.agg #[.slice Ao9 t657.length co9]] ?_;(with_reducible refine (Qbb.calls k _ _ t657 true _ (uE HO659) ?side2 A14.out).mono ?_);(case side2=>exact (Kd.R_reads' HO659.out).2.1);rintro e w29 ⟨rfl,hb⟩;refine ⟨_,rfl,?_⟩;replace HO659:=Aside0.mk (Kd.R_below (uR HO659) hb);replace HI0:=Aside0.mk (Qb.below (Qb.u HI0) hb);replace BK656:=Aside0.mk (Qc (uK BK656) hb);replace BK662:=Aside0.mk (Qc (uK BK662) hb);replace HK:=Aside0.mk (Qg.trans (vK HK) (Qg.of_below hb g none) (.inl rfl));replace HB:=Aside0.mk (Qa (uB HB) hb);(try clear hb);have hcz30_0:=bC BK662;have hfz30_0:=Qf BK662.out 0)|(go_at_call 199;(with_reducible refine (Qdo.calls _ _ t657 t663 false _ (uE HO659) ?side2 A16.out).mono ?_);(case side2=>exact (Kd.R_reads' HO659.out).2.1);rintro e w31 ⟨rfl,hb⟩;replace HO659:=Aside0.mk (Kd.R_below (uR HO659) hb);replace HI0:=Aside0.mk (Qb.below (Qb.u HI0) hb);replace BK656:=Aside0.mk (Qc (uK BK656) hb);replace BK662:=Aside0.mk (Qc (uK BK662) hb);replace HK:=Aside0.mk (Qg.trans (vK HK) (Qg.of_below hb g none) (.inl rfl));replace HB:=Aside0.mk (Qa (uB HB) hb);(try clear hb)))
    go_meet
    case rel=>exact ⟨_,(false),(t664),(t665),(by first|rfl|(simp;done)|(simp [*];done)),H',⟨by first|omega|exact Nat.le_refl _⟩,⟨uR HO659⟩,⟨uK BK656⟩,⟨uK BK662⟩,⟨Qb.u HI0⟩,⟨(vK HK)⟩,⟨uB HB⟩⟩
  ·
   replace c15:=Bool.eq_false_iff.mpr c15;subst c15;rw [if_neg (show ¬ (false=true) by decide)] at H;have H':=Aside0.mk H;clear H;have hnb32:=NB662_656.out;have hnc32:=NB656_662.out;have hnb33:=NB662_0.out;have hnc33:=NB0_662.out;have hcz34_0:=bC BK662;have hfz34_0:=Qf BK662.out 0;go_wp2_with (first|(refine gA (some 15) Tryz.func183 #[.agg #[.slice Ao9 t657.length co9]] ?_;(with_reducible refine (Qbb.calls k _ _ t657 false _ (uE HO659) ?side2 A14.out).mono ?_);(case side2=>exact (Kd.R_reads' HO659.out).2.1);rintro e w35 ⟨rfl,hb⟩;refine ⟨_,rfl,?_⟩;replace HO659:=Aside0.mk (Kd.R_below (uR HO659) hb);replace HI0:=Aside0.mk (Qb.below (Qb.u HI0) hb);replace BK656:=Aside0.mk (Qc (uK BK656) hb);replace BK662:=Aside0.mk (Qc (uK BK662) hb);replace HK:=Aside0.mk (Qg.trans (vK HK) (Qg.of_below hb g none) (.inl rfl));replace HB:=Aside0.mk (Qa (uB HB) hb);(try clear hb)))
   go_meet
   case rel=>exact ⟨_,(false),(t664),(t665),(by first|rfl|(simp;done)|(simp [*];done)),H',⟨by first|omega|exact Nat.le_refl _⟩,⟨uR HO659⟩,⟨uK BK656⟩,⟨uK BK662⟩,⟨Qb.u HI0⟩,⟨(vK HK)⟩,⟨uB HB⟩⟩
 case rest=>
  clear HC5
  try clear c1
  try clear c2
  try clear p2
  try clear c3
  try clear c10
  try clear c11
  try clear c15
  try clear c17
  try clear c18
  try clear c19
  try clear c20
  try clear c26
  try clear c27
  try clear c29
  try clear c32
  try clear c33
  try clear hcz12_0
  try clear hcz21_0
  try clear hcz23_0
  try clear hcz28_0
  try clear hcz30_0
  try clear hcz34_0
  try clear hfz12_0
  try clear hfz21_0
  try clear hfz23_0
  try clear hfz28_0
  try clear hfz30_0
  try clear hfz34_0
  obtain ⟨kq,x25_4,x1001_4,x1002_4,rfl,HA,HJ4,HO_663000,BK656,BK662,HI0,HK,HB⟩:=hcut;cases kq with
  |zero=>exact absurd HA.out (by simp [Qbo.j0])
  |succ kj4=>
   have H:=HA.out;clear HA;simp only [Qbo.j0] at H
   by_cases c36:x25_4=true
   ·
    subst c36;rw [if_pos rfl] at H;obtain ⟨⟨t671,t672,t673⟩,A37,H⟩:=bs H;(try dsimp only at H)
    obtain ⟨t674,A38,H⟩:=bs H;(try dsimp only at H)
    obtain ⟨t675,A39,H⟩:=bs H;(try dsimp only at H)
    simp only [Option.some.injEq,Prod.mk.injEq] at H;obtain ⟨rfl,rfl,rfl,rfl⟩:=H
    try go_wp2
    replace HO_663000:=Aside0.mk (Kd.R_drew HO_663000.out);replace BK656:=Aside0.mk (Qj BK656.out);replace BK662:=Aside0.mk (Qj BK662.out);replace HI0:=Aside0.mk (Qb.drew HI0.out);replace HK:=Aside0.mk (Qeo HK.out);replace HB:=Aside0.mk (Qy HB.out);refine sU (n:=10) (S:=fun w'=>w'.cell? ⟨gb662,0,none⟩=some (.slice Ao9 t657.length co9)) (ds:= []) ((Qci BK662.out 0).trans rfl) (fun hHeld=> ?_);refine Qeg Qbo.tab4 Qbo.bits4 (fun HT_ HW_=> ?_);generalize wc.drew=w40 at HO_663000 BK656 BK662 HI0 HK HB hHeld ⊢;refine pU 2 28 ?_;refine pU 3 29 ?_;refine tU 0 26 hHeld ?_;refine tU 1 27 hHeld ?_;refine tU 4 30 hHeld ?_;refine oU 5 (some 31) fun K hK=> ?_
    refine Qes Tryz.func297 (by kernel_rfl) rfl #[.pointer (some ⟨g,0,none⟩), .agg #[.slice Ao9 t657.length co9]] (by rfl) rfl rfl (by (try simp only [List.map_toArray,List.map_cons,List.map_nil]);first|done|rfl|(simp only [List.length_drop,List.length_take];rfl)) ?_
    with_reducible refine (Qck.calls g s0_0 x1001_4 x1002_4 _ _ t657 t671 t672 t673 w0 _ ?side1 ?side2 ?side3 ?side4 ?side5 A37.out).mono ?_
    (case side1=>repeat (first|(with_reducible first|exact HI0.out|apply Qb.alloc|apply Qb.drewN|apply Qb.drew|apply Qb.set_1|apply Qb.set_2|refine Qb.far ?_ NB0_656.out _|refine Qb.far ?_ NB0_662.out _)|exact HI0.out))
    (case side2=>repeat (first|(with_reducible first|exact HB.out|apply Qo|apply Qq|apply Qy|refine Q4 ?_ (Qb.ge HI0.out)|refine Q4 ?_ GE656.out|refine Q4 ?_ GE662.out)|exact HB.out))
    (case side3=>repeat (first|exact (Kd.R_reads' HO_663000.out).2.2|(with_reducible refine Kd.C_alloc ?_ _)|(with_reducible refine Kd.C_drewN ?_ _)|(with_reducible refine Kd.C_drew ?_)))
    (case side4=>exact (Kd.R_reads' HO_663000.out).2.1)
    (case side5=>exact Qgm (Qb.own_ne HI0.out HO_663000.out (by decide)))
    rintro e w41 ⟨rfl,hi,hb,hk⟩;refine ⟨_,rfl,?_⟩;replace HO_663000:=Aside0.mk (Kd.R_mono (Kd.R_keep (Qb.apart (show Qb w0 _ g s0_0 x1001_4 x1002_4 from Qb.u HI0) (uR HO_663000) (by decide)) hk (fun _ h=>h.2)) (fun _ h=>h.1));replace BK656:=Aside0.mk (Qg.blk hk (g':=gb656) (o:= .cells #[.slice none 0 0] 26 (0,0)) (uK BK656) NB656_0.out (by simp));replace BK662:=Aside0.mk (Qg.blk hk (g':=gb662) (o:= .cells #[.slice Ao9 t657.length co9] 26 (0,0)) (uK BK662) NB662_0.out (by simp));replace HK:=Aside0.mk (Qg.trans (vK HK) hk (.inl rfl));replace HB:=Aside0.mk (hb);replace HI0:=Aside0.mk (hi)
    skip
    skip
    skip
    skip
    refine hK.out _ _ ((Qci BK662.out 0).trans rfl) (fun hHeld=> ?_);clear hK K;refine nU 31 ?_;refine pU 6 32 ?_;refine oU 7 (some 33) fun K hK=> ?_
    refine Qes Tryz.func292 (by kernel_rfl) rfl #[.agg #[.slice Ao9 t657.length co9], .int .i64 (Go.bits .and .i64 t663 t671)] (by rfl) rfl rfl (by (try simp only [List.map_toArray,List.map_cons,List.map_nil]);first|done|rfl|(simp only [List.length_drop,List.length_take];rfl)) ?_
    with_reducible refine (Qcd.calls kj4 _ _ t657 (Go.bits .and .i64 t663 t671) t674 _ ?side1 ?side2 A38.out).mono ?_
    (case side1=>repeat (first|exact (Kd.R_reads' HO_663000.out).2.2|(with_reducible refine Kd.C_alloc ?_ _)|(with_reducible refine Kd.C_drewN ?_ _)|(with_reducible refine Kd.C_drew ?_)))
    (case side2=>exact (Kd.R_reads' HO_663000.out).2.1)
    rintro e w42 ⟨rfl,hb⟩;refine ⟨_,rfl,?_⟩;replace HO_663000:=Aside0.mk (Kd.R_below (uR HO_663000) hb);replace BK656:=Aside0.mk (Qc (uK BK656) hb);replace BK662:=Aside0.mk (Qc (uK BK662) hb);replace HI0:=Aside0.mk (Qb.below (Qb.u HI0) hb);replace HK:=Aside0.mk (Qg.trans (vK HK) (Qg.of_below hb g none) (.inl rfl));replace HB:=Aside0.mk (Qa (uB HB) hb)
    skip
    skip
    skip
    skip
    refine hK.out _ _ ((Qci BK662.out 0).trans rfl) (fun hHeld=> ?_);clear hK K;refine nU 33 ?_;refine oU 8 (some 34) fun K hK=> ?_
    refine Qes Tryz.func298 (by kernel_rfl) rfl #[.agg #[.slice Ao9 t657.length co9], .int .i64 t674] (by rfl) rfl rfl (by (try simp only [List.map_toArray,List.map_cons,List.map_nil]);first|done|rfl|(simp only [List.length_drop,List.length_take];rfl)) ?_
    with_reducible refine (Qcj.calls kj4 _ _ t657 t674 t675 _ ?side1 ?side2 A39.out).mono ?_
    (case side1=>repeat (first|exact (Kd.R_reads' HO_663000.out).2.2|(with_reducible refine Kd.C_alloc ?_ _)|(with_reducible refine Kd.C_drewN ?_ _)|(with_reducible refine Kd.C_drew ?_)))
    (case side2=>exact (Kd.R_reads' HO_663000.out).2.1)
    rintro e w43 ⟨rfl,hb⟩;refine ⟨_,rfl,?_⟩;replace HO_663000:=Aside0.mk (Kd.R_below (uR HO_663000) hb);replace BK656:=Aside0.mk (Qc (uK BK656) hb);replace BK662:=Aside0.mk (Qc (uK BK662) hb);replace HI0:=Aside0.mk (Qb.below (Qb.u HI0) hb);replace HK:=Aside0.mk (Qg.trans (vK HK) (Qg.of_below hb g none) (.inl rfl));replace HB:=Aside0.mk (Qa (uB HB) hb)
    skip
    skip
    skip
    skip
    refine hK.out _ _ ((Qci BK662.out 0).trans rfl) (fun hHeld=> ?_);clear hK K;refine nU 34 ?_;refine pU 9 7 ?_;refine dU ?_;have hnb44:=NB662_656.out;have hnc44:=NB656_662.out;have hnb45:=NB662_0.out;have hnc45:=NB0_662.out;have hcz46_0:=bC BK662;have hfz46_0:=Qf BK662.out 0;have hnb47:=NB656_0.out;have hnc47:=NB0_656.out;have hcz48_0:=bC BK656;have hfz48_0:=Qf BK656.out 0
    try go_wp2
    refine bodyPost_ret (Qd7 rfl _ _ gb656 26 #[.slice Ao9 t657.length co9] (0,0) _ rfl (by (with_reducible repeat (first|refine Qk ?_ _|refine Qj ?_|refine Qi ?_ _));refine Qcs (cs:= #[.slice none 0 0]) ?_ 0 _ rfl;(with_reducible repeat (first|refine Qk ?_ _|refine Qj ?_|refine Qi ?_ _));exact BK656.out) Tryz.underlying26 rfl (by kernel_rfl)) rfl ?_;exact ⟨_,by first|rfl|(simp [Qd,Qe] <;>rfl)|(simp [*,Qd,Qe] <;>rfl),by (with_reducible repeat (first|apply Kd.R_alloc|apply Kd.R_drewN|apply Kd.R_drew));exact Kd.R_mono (Kd.R_far (p:=⟨gb656,0,none⟩) (Kd.R_types HO_663000.out BK656.out (by decide)) (fun _ hk=>hk.2) (.slice Ao9 t657.length co9)) (fun _ hk=>trivial),(Qb.vI HI0),(Qb.vB HB),(vK HK)⟩
   ·
    replace c36:=Bool.eq_false_iff.mpr c36;subst c36;rw [if_neg (show ¬ (false=true) by decide)] at H;simp only [Option.some.injEq,Prod.mk.injEq] at H;obtain ⟨rfl,rfl,rfl,rfl⟩:=H;have hnb49:=NB662_656.out;have hnc49:=NB656_662.out;have hnb50:=NB662_0.out;have hnc50:=NB0_662.out;have hcz51_0:=bC BK662;have hfz51_0:=Qf BK662.out 0;have hnb52:=NB656_0.out;have hnc52:=NB0_656.out;have hcz53_0:=bC BK656;have hfz53_0:=Qf BK656.out 0;go_wp2;refine bodyPost_ret (Qd7 rfl _ _ gb656 26 #[.slice Ao9 t657.length co9] (0,0) _ rfl (by (with_reducible repeat (first|refine Qk ?_ _|refine Qj ?_|refine Qi ?_ _));refine Qcs (cs:= #[.slice none 0 0]) ?_ 0 _ rfl;(with_reducible repeat (first|refine Qk ?_ _|refine Qj ?_|refine Qi ?_ _));exact BK656.out) Tryz.underlying26 rfl (by kernel_rfl)) rfl ?_;exact ⟨_,by first|rfl|(simp [Qd,Qe] <;>rfl)|(simp [*,Qd,Qe] <;>rfl),by (with_reducible repeat (first|apply Kd.R_alloc|apply Kd.R_drewN|apply Kd.R_drew));exact Kd.R_mono (Kd.R_far (p:=⟨gb656,0,none⟩) (Kd.R_types HO_663000.out BK656.out (by decide)) (fun _ hk=>hk.2) (.slice Ao9 t657.length co9)) (fun _ hk=>trivial),(Qb.vI HI0),(Qb.vB HB),(vK HK)⟩
def Qdu.f (k : Nat) (l0 : List Int) : Option (List Int × Int) := (Qbo.f k l0 0 0 10).bind fun bt678 => (some (bt678.1, bt678.2.1))
theorem Qdu.mono : ∀ a0 k, LeO (Qdu.f k a0) (Qdu.f (k + 1) a0) := by
 intro a0 k;unfold Qdu.f
 repeat' (with_reducible first|apply Qbo.mono|exact LeO.refl _|exact LeO.none _|refine LeO.ite ?_ ?_|refine LeO.bind ?_ (fun _=> ?_))
set_option maxHeartbeats 8000000 in
set_option maxRecDepth 100000 in
theorem Qdu.calls (k : Nat) (A0 : Option Addr) (c0 : Nat) (l0 : List Int) (r1 : List Int) (r2 : Int) (w : World) (hr0 : Kd.C (Kd.int .u8) w A0 l0.length l0) (hc0 : l0.length ≤ c0) (h : Qdu.f k l0 = some (r1, r2)) :
 Calls Tryz.prog 172 #[.slice A0 l0.length c0] w fun e w'=> ∃ v0_:Value,e= .returned (.tuple #[.agg #[v0_], .int .i64 r2])∧Kd.R (Kd.int .i64) 3 w' w.heap.size (fun _=>True) v0_ r1∧Below w.heap.size w w':=by
 have hu26:=Tryz.underlying26;have hu94:=Tryz.underlying94;have HR0:=Aside0.mk hr0;have HC0:=Aside0.mk hc0;clear hr0 hc0;have HB:=Aside0.mk (Below.refl w.heap.size w);have H:((Qbo.f k l0 0 0 10).bind fun bt678=>(some (bt678.1,bt678.2.1)))=some (r1,r2):=h;clear h;obtain ⟨⟨t678,t681,t682,t683⟩,A2,H⟩:=bs H;(try dsimp only at H)
 simp only [Option.some.injEq,Prod.mk.injEq] at H;obtain ⟨rfl,rfl⟩:=H;go_enter Tryz.func172,Tryz.ntmps172;go_wp2_with (first|((with_reducible refine Qc0 (N:=2) rfl ?_);refine Qe3 ?hg (N:=2) ?hd (cs:= #[.slice none 0 0]) (t:=26) ?hr ?_;(case hd=>rfl);(case hg=>rfl);(case hr=>first|(go_simp;done)|(go_simp;rfl));intro gb676 hg w3 hbox hb;have BK676:=Aside0.mk (hbox);have GW676:=Aside0.mk ((by rw [hg];exact (Qp (by repeat (first|(with_reducible first|exact HB.out|apply Qo|apply Qq|apply Qy)|exact HB.out))):w.heap.size≤gb676));have GE676:=GW676;replace HB:=Aside0.mk (Qa (by repeat (first|(with_reducible first|exact HB.out|apply Qo|apply Qq|apply Qy)|exact HB.out)) hb);clear hb hbox hg)|((with_reducible refine Qc0 (N:=7) rfl ?_);refine Qe3 ?hg (N:=7) ?hd (cs:= #[.slice A0 l0.length c0, .int .i64 0, .int .u64 0]) (t:=94) ?hr ?_;(case hd=>rfl);(case hg=>rfl);(case hr=>first|(go_simp;done)|(go_simp;rfl));intro gb677 hg w4 hbox hb;have HI677:=Aside0.mk ((⟨_,_,hbox,(by rw [hg];exact (Qp (by repeat (first|(with_reducible first|exact HB.out|apply Qo|apply Qq|apply Qy|refine Q4 ?_ GE676.out)|exact HB.out))):w.heap.size≤gb677),HR0.out⟩:Qb w _ gb677 l0 0 0));have GW677:=Aside0.mk ((by rw [hg];exact (Qp (by repeat (first|(with_reducible first|exact HB.out|apply Qo|apply Qq|apply Qy|refine Q4 ?_ GE676.out)|exact HB.out))):w.heap.size≤gb677));have GE677:=GW677;replace HB:=Aside0.mk (Qa (by repeat (first|(with_reducible first|exact HB.out|apply Qo|apply Qq|apply Qy|refine Q4 ?_ GE676.out)|exact HB.out)) hb);have NB676_677:=Aside0.mk ((by rw [hg];exact Nat.ne_of_lt (Qcc (g:=gb676) (o:= .cells #[.slice none 0 0] 26 (0,0)) (by (with_reducible repeat (first|refine Qk ?_ _|refine Qj ?_|refine Qi ?_ _));exact BK676.out)):gb676≠gb677));have NB677_676:=Aside0.mk ((by rw [hg];exact Nat.ne_of_gt (Qcc (g:=gb676) (o:= .cells #[.slice none 0 0] 26 (0,0)) (by (with_reducible repeat (first|refine Qk ?_ _|refine Qj ?_|refine Qi ?_ _));exact BK676.out)):gb677≠gb676));replace BK676:=Aside0.mk (Qc (g:=gb676) (o:= .cells #[.slice none 0 0] 26 (0,0)) (by (with_reducible repeat (first|refine Qk ?_ _|refine Qj ?_|refine Qi ?_ _));exact BK676.out) hb);clear hb hbox hg)|((with_reducible refine Qdp (f:=193) rfl ?_);refine Qeu (some 9) rfl rfl Tryz.func193 (by kernel_rfl) rfl #[.pointer (some ⟨gb677,0,none⟩), .int .i64 10] rfl (by (try simp only [List.map_toArray,List.map_cons,List.map_nil]);first|done|rfl|(simp only [List.length_drop,List.length_take];rfl)) ?_;(with_reducible refine (Qbo.calls k gb677 l0 0 0 10 t678 t681 t682 t683 w _ ?side1 ?side2 A2.out).mono ?_);(case side1=>repeat (first|(with_reducible first|exact HI677.out|apply Qb.alloc|apply Qb.drewN|apply Qb.drew|apply Qb.set_1|apply Qb.set_2|refine Qb.far ?_ NB677_676.out _)|exact HI677.out));(case side2=>repeat (first|(with_reducible first|exact HB.out|apply Qo|apply Qq|apply Qy|refine Q4 ?_ (Qb.ge HI677.out)|refine Q4 ?_ GE676.out)|exact HB.out));rintro e w5 ⟨v679,rfl,ho0,hi,hb,hk⟩;refine ⟨_,rfl,?_⟩;replace BK676:=Aside0.mk (Qg.blk hk (g':=gb676) (o:= .cells #[.slice none 0 0] 26 (0,0)) (by (with_reducible repeat (first|refine Qk ?_ _|refine Qj ?_|refine Qi ?_ _));exact BK676.out) NB676_677.out (by simp));have HO680:=Aside0.mk (Kd.R_lower ho0 (Qp (by repeat (first|(with_reducible first|exact HB.out|apply Qo|apply Qq|apply Qy|refine Q4 ?_ (Qb.ge HI677.out)|refine Q4 ?_ GE676.out)|exact HB.out))));replace HB:=Aside0.mk (hb);replace HI677:=Aside0.mk (hi);(try clear hb);(try clear hb2);(try clear hk);(try clear hi);(try clear ho0);obtain ⟨Ao6,co6,eo6⟩:=Kd.R_slice HO680.out;subst eo6;have hnb7:=NB676_677.out;have hnc7:=NB677_676.out;have hcz8_0:w5.cell? ⟨gb676,0,none⟩=some (.slice none 0 0):=(Qci BK676.out 0).trans rfl;have hfz8_0:=Qf BK676.out 0));refine bodyPost_ret (Qd7 rfl _ _ gb676 26 #[.slice Ao6 t678.length co6] (0,0) _ rfl (by (with_reducible repeat (first|refine Qk ?_ _|refine Qj ?_|refine Qi ?_ _));refine Qcs (cs:= #[.slice none 0 0]) ?_ 0 _ rfl;(with_reducible repeat (first|refine Qk ?_ _|refine Qj ?_|refine Qi ?_ _));exact BK676.out) Tryz.underlying26 rfl (by kernel_rfl)) rfl ?_;exact ⟨_,by first|rfl|(simp [Qd,Qe] <;>rfl)|(simp [*,Qd,Qe] <;>rfl),by (with_reducible repeat (first|apply Kd.R_alloc|apply Kd.R_drewN|apply Kd.R_drew));exact Kd.R_mono (Kd.R_far (p:=⟨gb676,0,none⟩) (Kd.R_types HO680.out BK676.out (by decide)) (fun _ hk=>hk.2) (.slice Ao6 t678.length co6)) (fun _ hk=>trivial),(Qb.vB HB)⟩
def Qdh.f (k : Nat) (l0 : List Int) : Option (List Int × Int) := (Qdu.f k l0).bind fun bt685 => (some (bt685.1, bt685.2))
theorem Qdh.mono : ∀ a0 k, LeO (Qdh.f k a0) (Qdh.f (k + 1) a0) := by
 intro a0 k;unfold Qdh.f
 repeat' (with_reducible first|apply Qdu.mono|exact LeO.refl _|exact LeO.none _|refine LeO.ite ?_ ?_|refine LeO.bind ?_ (fun _=> ?_))
set_option maxHeartbeats 8000000 in
set_option maxRecDepth 100000 in
theorem Qdh.calls (k : Nat) (A0 : Option Addr) (c0 : Nat) (l0 : List Int) (r1 : List Int) (r2 : Int) (w : World) (hr0 : Kd.C (Kd.int .u8) w A0 l0.length l0) (hc0 : l0.length ≤ c0) (h : Qdh.f k l0 = some (r1, r2)) :
 Calls Tryz.prog 27 #[.slice A0 l0.length c0] w fun e w'=> ∃ v0_:Value,e= .returned (.tuple #[.agg #[v0_], .int .i64 r2])∧Kd.R (Kd.int .i64) 3 w' w.heap.size (fun _=>True) v0_ r1∧Below w.heap.size w w':=by
 have hu26:=Tryz.underlying26;have HR0:=Aside0.mk hr0;have HC0:=Aside0.mk hc0;clear hr0 hc0;have HB:=Aside0.mk (Below.refl w.heap.size w);have H:((Qdu.f k l0).bind fun bt685=>(some (bt685.1,bt685.2)))=some (r1,r2):=h;clear h;obtain ⟨⟨t685,t688⟩,A2,H⟩:=bs H;(try dsimp only at H)
 simp only [Option.some.injEq,Prod.mk.injEq] at H;obtain ⟨rfl,rfl⟩:=H;go_enter Tryz.func27,Tryz.ntmps27;go_wp2_with (first|(refine bE (N:=2) (cs:= #[.slice none 0 0]) (t:=26) ?_;intro gb684 hg w3 hbox hb;have BK684:=Aside0.mk (hbox);have GW684:=Aside0.mk ((gV hg (uB HB)));have GE684:=GW684;replace HB:=Aside0.mk (Qa (uB HB) hb);clear hb hbox hg)|(refine gA (some 5) Tryz.func172 #[.slice A0 l0.length c0] ?_;(with_reducible refine (Qdu.calls k _ _ l0 t685 t688 _ (uD HR0 HB) HC0.out A2.out).mono ?_);rintro e w4 ⟨v686,rfl,ho0,hb⟩;refine ⟨_,rfl,?_⟩;have HO687:=Aside0.mk (Kd.R_lower ho0 (Qp (uB HB)));replace BK684:=Aside0.mk (Qc (uK BK684) hb);replace HB:=Aside0.mk (Qa (uB HB) hb);(try clear hb ho0);obtain ⟨Ao5,co5,eo5⟩:=Kd.R_slice HO687.out;subst eo5;have hcz6_0:=bC BK684;have hfz6_0:=Qf BK684.out 0));refine bodyPost_ret (Qd7 rfl _ _ gb684 26 #[.slice Ao5 t685.length co5] (0,0) _ rfl (by (with_reducible repeat (first|refine Qk ?_ _|refine Qj ?_|refine Qi ?_ _));refine Qcs (cs:= #[.slice none 0 0]) ?_ 0 _ rfl;(with_reducible repeat (first|refine Qk ?_ _|refine Qj ?_|refine Qi ?_ _));exact BK684.out) Tryz.underlying26 rfl (by kernel_rfl)) rfl ?_;exact ⟨_,by first|rfl|(simp [Qd,Qe] <;>rfl)|(simp [*,Qd,Qe] <;>rfl),by (with_reducible repeat (first|apply Kd.R_alloc|apply Kd.R_drewN|apply Kd.R_drew));exact Kd.R_mono (Kd.R_far (p:=⟨gb684,0,none⟩) (Kd.R_types HO687.out BK684.out (by decide)) (fun _ hk=>hk.2) (.slice Ao5 t685.length co5)) (fun _ hk=>trivial),(vB HB)⟩
def Qbm.l0 : Nat → Int → List Int → Int → Int → List Int → Option (Int)
 |0,_,_,_,_,_=>none
 |k+1,x5,x12,x13,x14,x690000=>if x14<x13 then (if 0≤x14 then (if x14<(x12.length:Int) then ((Qcx.f x690000).bind fun t695=>(if 0≤(wrap64 ((wrap64 (t695 - 1)) - (rd x12 x14))) then (Qbm.l0 k (Go.bits .or .i64 x5 (shl .i64 1 (wrap64 ((wrap64 (t695 - 1)) - (rd x12 x14))))) x12 x13 (wrap64 (x14+1)) x690000) else (none))) else (none)) else (none)) else (some x5)
def Qbm.f (k : Nat) (l0_0 : List Int) (a1 : Int) : Option (Int) := (Qda.f l0_0).bind fun t690 => ((Qbn.f k (Go.bits .andNot .i64 t690 a1)).bind fun t691 => (Qbm.l0 k 0 t691 (t691.length : Int) 0 l0_0))
theorem Qbm.mono_l : ∀ k, (∀ y0 y1 y2 y3 y4, LeO (Qbm.l0 k y0 y1 y2 y3 y4) (Qbm.l0 (k + 1) y0 y1 y2 y3 y4))
 |0=>fun _ _ _ _ _ r h=>by simp [Qbm.l0] at h
 |k+1=>by
  have ih0:=Qbm.mono_l k
  ·
   intro y0 y1 y2 y3 y4;unfold Qbm.l0
   repeat' first
   |(with_reducible exact ih0 _ _ _ _ _)
   |(with_reducible exact Qbn.mono _ _)
   |(with_reducible exact LeO.refl _)
   |(with_reducible exact LeO.none _)
   |(with_reducible refine LeO.ite ?_ ?_)
   |(with_reducible refine LeO.bind ?_ (fun _=> ?_))
   |exact ih0 _ _ _ _ _
   |exact Qbn.mono _ _
   |exact LeO.none _
   |refine LeO.ite ?_ ?_
   |refine LeO.bind ?_ (fun _=> ?_)
theorem Qbm.mono : ∀ a0 a1 k, LeO (Qbm.f k a0 a1) (Qbm.f (k + 1) a0 a1) := by
 intro a0 a1 k;have ih0:=Qbm.mono_l k;unfold Qbm.f
 repeat' (with_reducible first|apply ih0|apply Qbn.mono|exact LeO.refl _|exact LeO.none _|refine LeO.ite ?_ ?_|refine LeO.bind ?_ (fun _=> ?_))
set_option maxHeartbeats 8000000 in
set_option maxRecDepth 100000 in
theorem Qbm.calls (k : Nat) (A0_0 : Option Addr) (c0_0 : Nat) (l0_0 : List Int) (a1 : Int) (r : Int) (w : World) (hr0_0 : Kd.C (Kd.int .i64) w A0_0 l0_0.length l0_0) (hc0_0 : l0_0.length ≤ c0_0) (h : Qbm.f k l0_0 a1 = some r) :
 Calls Tryz.prog 173 #[.agg #[.slice A0_0 l0_0.length c0_0], .int .i64 a1] w fun e w'=>e= .returned (.int .i64 r)∧Below w.heap.size w w':=by
 have hu26:=Tryz.underlying26;have HR0_0:=Aside0.mk hr0_0;have HC0_0:=Aside0.mk hc0_0;clear hr0_0 hc0_0;have HB:=Aside0.mk (Below.refl w.heap.size w);have H:((Qda.f l0_0).bind fun t690=>((Qbn.f k (Go.bits .andNot .i64 t690 a1)).bind fun t691=>(Qbm.l0 k 0 t691 (t691.length:Int) 0 l0_0)))=some r:=h;clear h;obtain ⟨t690,A3,H⟩:=bs H;(try dsimp only at H)
 obtain ⟨t691,A4,H⟩:=bs H;(try dsimp only at H)
 have H':=Aside0.mk H;clear H;go_enter Tryz.func173,Tryz.ntmps173;go_wp2_with (first|(refine bE (N:=2) (cs:= #[.slice A0_0 l0_0.length c0_0]) (t:=26) ?_;intro gb689 hg w5 hbox hb;have BK689:=Aside0.mk (hbox);have GW689:=Aside0.mk ((gV hg (uB HB)));have GE689:=GW689;replace HB:=Aside0.mk (Qa (uB HB) hb);clear hb hbox hg;have hcz6_0:=bC BK689;have hfz6_0:=Qf BK689.out 0)|(refine gA (some 9) Tryz.func290 #[.agg #[.slice A0_0 l0_0.length c0_0]] ?_;(with_reducible refine (Qda.calls _ _ l0_0 t690 _ (uD HR0_0 HB) HC0_0.out A3.out).mono ?_);rintro e w7 ⟨rfl,hb⟩;refine ⟨_,rfl,?_⟩;replace BK689:=Aside0.mk (Qc (uK BK689) hb);replace HB:=Aside0.mk (Qa (uB HB) hb);(try clear hb))|(refine gA (some 12) Tryz.func277 #[.int .i64 (Go.bits .andNot .i64 t690 a1)] ?_;(with_reducible refine (Qbn.calls k (Go.bits .andNot .i64 t690 a1) t691 _ A4.out).mono ?_);rintro e w8 ⟨v692,rfl,ho0,hb⟩;refine ⟨_,rfl,?_⟩;have HO693:=Aside0.mk (Kd.R_lower ho0 (Qp (uB HB)));replace BK689:=Aside0.mk (Qc (uK BK689) hb);replace HB:=Aside0.mk (Qa (uB HB) hb);(try clear hb ho0);obtain ⟨Ao9,co9,eo9⟩:=Kd.R_slice HO693.out;subst eo9))
 go_loopg [5,14] k (fun kq v5 v14 w'=> ∃ (x5_1:Int) (x14_1:Int),v5= .int .i64 x5_1∧v14= .int .i64 x14_1∧Aside0 (Qbm.l0 kq x5_1 t691 (t691.length:Int) x14_1 l0_0=some r)∧Aside0 (kq≤k)∧Aside0 (Kd.R (Kd.int .i64) 3 w' w.heap.size (fun _=>True) (.slice Ao9 t691.length co9) t691)∧Aside0 (w'.heap[gb689]? =some (.cells #[(.slice A0_0 l0_0.length c0_0)] 26 (0,0)))∧Aside0 (Below w.heap.size w w'))
 case atStart=>exact ⟨(0),(0),(by first|rfl|(simp;done)|(simp [*];done)),(by first|rfl|(simp;done)|(simp [*];done)),H',⟨Nat.le_refl _⟩,⟨uR HO693⟩,⟨uK BK689⟩,⟨uB HB⟩⟩
 case round=>
  clear H'
  try clear c1
  try clear c2
  try clear p2
  try clear hcz6_0
  try clear hfz6_0
  obtain ⟨x5_1,x14_1,rfl,rfl,HA,HK1,HO_12,BK689,HB⟩:=hrel;cases gk with
  |zero=>exact absurd HA.out (by simp [Qbm.l0])
  |succ k1=>
   have H:=HA.out;clear HA;simp only [Qbm.l0] at H
   by_cases c10:x14_1<(t691.length:Int)
   ·
    rw [if_pos c10] at H;have c10b0:=decide_eq_true c10;clear c10
    by_cases c11:0≤x14_1
    ·
     rw [if_pos c11] at H;have c11b0:=decide_eq_true c11;clear c11
     by_cases c12:x14_1<(t691.length:Int)
     ·
      rw [if_pos c12] at H;have c12b0:=decide_eq_true c12;clear c12;obtain ⟨t695,A13,H⟩:=bs H;(try dsimp only at H)
      obtain ⟨ji14,hji14⟩: ∃ j_:Int,(wrap64 ((wrap64 (t695 - 1)) - (rd t691 x14_1)))=j_:=⟨_,rfl⟩
      replace H:(if 0≤(ji14) then (Qbm.l0 k1 (Go.bits .or .i64 x5_1 (shl .i64 1 (ji14))) t691 (t691.length:Int) (wrap64 (x14_1+1)) l0_0) else (none))=some r:=by first|(rw [hji14] at H;exact H)|(simp only [hji14] at H ⊢;exact H)
      (try rw [hji14] at A13)
      have hji14w:(IntKind.i64.wrap ((wrap64 (t695 - 1)) - (rd t691 x14_1)))=ji14:=(Qcu _).trans hji14
      by_cases c15:0≤(ji14)
      ·
       rw [if_pos c15] at H;have c15b0:=eq_true c15;have c15b1:=decide_eq_true c15;clear c15;obtain ⟨ji16,hji16⟩: ∃ j_:Int,(shl .i64 1 (ji14))=j_:=⟨_,rfl⟩
       replace H:(Qbm.l0 k1 (Go.bits .or .i64 x5_1 (ji16)) t691 (t691.length:Int) (wrap64 (x14_1+1)) l0_0)=some r:=by first|(rw [hji16] at H;exact H)|(simp only [hji16] at H ⊢;exact H)
       (try rw [hji16] at A13)
       have hji16_:(IntKind.i64.wrap (1*2 ^ min (ji14).toNat 64))=ji16:=hji16;have hji16z:(ji14)≤64→(IntKind.i64.wrap (1*2 ^ (ji14).toNat))=ji16:=Qd1 hji16;have hji16u:(IntKind.i64.wrap (2 ^ min (ji14).toNat 64))=ji16:=by have h_:=hji16_;rw [Int.one_mul] at h_;exact h_
       have hji16v:(ji14)≤64→(IntKind.i64.wrap (2 ^ (ji14).toNat))=ji16:=fun hle_=>by have h_:=hji16z hle_;rw [Int.one_mul] at h_;exact h_
       have hji16y:(wrap64 (1*2 ^ min (ji14).toNat 64))=ji16:=(Qcu _).symm.trans hji16_;have hji16x:(ji14)≤64→(wrap64 (1*2 ^ (ji14).toNat))=ji16:=fun h_=>(Qcu _).symm.trans (hji16z h_)
       have H':=Aside0.mk H;clear H;have p694:0≤(x14_1:Int):=of_decide_eq_true (by first|(with_reducible assumption)|assumption);have q694:x14_1<(t691.length:Int):=of_decide_eq_true (by first|(with_reducible assumption)|assumption);obtain ⟨ad694,e694,hx694_0⟩:=Kd.at_int (Kd.R_reads' HO_12.out).2.2 x14_1 p694 q694;cases e694;replace p694:=eq_true p694;replace q694:=eq_true q694;have hcz17_0:=bC BK689;have hfz17_0:=Qf BK689.out 0;go_wp2_with (first|(refine gA (some 20) Tryz.func244 #[.agg #[.slice A0_0 l0_0.length c0_0]] ?_;(with_reducible refine (Qcx.calls _ _ l0_0 t695 _ (uD HR0_0 HB) HC0_0.out A13.out).mono ?_);rintro e w18 ⟨rfl,hb⟩;refine ⟨_,rfl,?_⟩;replace HO_12:=Aside0.mk (Kd.R_below (uR HO_12) hb);replace BK689:=Aside0.mk (Qc (uK BK689) hb);replace HB:=Aside0.mk (Qa (uB HB) hb);(try clear hb)));go_roundg k1
       case measure=>have:=HK1.out;omega
       case rel=>exact ⟨(Go.bits .or .i64 x5_1 (ji16)),(wrap64 (x14_1+1)),(by first|rfl|(simp;done)|(simp only [←hji16] <;>(first|rfl|simp))|(simp [*];done)),(by first|rfl|(simp;done)|(simp [*];done)),H',⟨by have:=HK1.out;omega⟩,⟨uR HO_12⟩,⟨uK BK689⟩,⟨uB HB⟩⟩
      ·
       rw [if_neg c15] at H;exact absurd H (by simp)
     ·
      rw [if_neg c12] at H;exact absurd H (by simp)
    ·
     rw [if_neg c11] at H;exact absurd H (by simp)
   ·
    rw [if_neg c10] at H;have c10b0:=decide_eq_false c10;clear c10;obtain rfl:=Option.some.inj H;go_wp2
    go_ret
    exact ⟨by first|rfl|(simp [Qd,Qe] <;>rfl)|(simp [*,Qd,Qe] <;>rfl),uB HB⟩
def Qdn.f (k : Nat) (l0_0 : List Int) (a1 : Int) : Option (Int × Bool) := (Qcr.f k l0_0 a1).bind fun t697 => (if t697 = true then ((Qbm.f k l0_0 a1).bind fun t698 => (some (t698, true))) else (some (0, false)))
theorem Qdn.mono : ∀ a0 a1 k, LeO (Qdn.f k a0 a1) (Qdn.f (k + 1) a0 a1) := by
 intro a0 a1 k;unfold Qdn.f
 repeat' (with_reducible first|apply Qbm.mono|apply Qcr.mono|exact LeO.refl _|exact LeO.none _|refine LeO.ite ?_ ?_|refine LeO.bind ?_ (fun _=> ?_))
set_option maxHeartbeats 8000000 in
set_option maxRecDepth 100000 in
theorem Qdn.calls (k : Nat) (A0_0 : Option Addr) (c0_0 : Nat) (l0_0 : List Int) (a1 : Int) (r1 : Int) (r2 : Bool) (w : World) (hr0_0 : Kd.C (Kd.int .i64) w A0_0 l0_0.length l0_0) (hc0_0 : l0_0.length ≤ c0_0) (h : Qdn.f k l0_0 a1 = some (r1, r2)) :
 Calls Tryz.prog 28 #[.agg #[.slice A0_0 l0_0.length c0_0], .int .i64 a1] w fun e w'=>e= .returned (.tuple #[.int .i64 r1, .bool r2])∧Below w.heap.size w w':=by
 have hu26:=Tryz.underlying26;have HR0_0:=Aside0.mk hr0_0;have HC0_0:=Aside0.mk hc0_0;clear hr0_0 hc0_0;have HB:=Aside0.mk (Below.refl w.heap.size w);have H:((Qcr.f k l0_0 a1).bind fun t697=>(if t697=true then ((Qbm.f k l0_0 a1).bind fun t698=>(some (t698,true))) else (some (0,false))))=some (r1,r2):=h;clear h;obtain ⟨t697,A3,H⟩:=bs H;(try dsimp only at H)
 by_cases c4:t697=true
 ·
  subst c4;rw [if_pos rfl] at H;obtain ⟨t698,A5,H⟩:=bs H;(try dsimp only at H)
  simp only [Option.some.injEq,Prod.mk.injEq] at H;obtain ⟨rfl,rfl⟩:=H;go_enter Tryz.func28,Tryz.ntmps28;go_wp2_with (first|(refine bE (N:=2) (cs:= #[.slice A0_0 l0_0.length c0_0]) (t:=26) ?_;intro gb696 hg w6 hbox hb;have BK696:=Aside0.mk (hbox);have GW696:=Aside0.mk ((gV hg (uB HB)));have GE696:=GW696;replace HB:=Aside0.mk (Qa (uB HB) hb);clear hb hbox hg;have hcz7_0:=bC BK696;have hfz7_0:=Qf BK696.out 0)|(refine gA (some 8) Tryz.func158 #[.agg #[.slice A0_0 l0_0.length c0_0], .int .i64 a1] ?_;(with_reducible refine (Qcr.calls k _ _ l0_0 a1 true _ (uD HR0_0 HB) HC0_0.out A3.out).mono ?_);rintro e w8 ⟨rfl,hb⟩;refine ⟨_,rfl,?_⟩;replace BK696:=Aside0.mk (Qc (uK BK696) hb);replace HB:=Aside0.mk (Qa (uB HB) hb);(try clear hb);have hcz9_0:=bC BK696;have hfz9_0:=Qf BK696.out 0)|(refine gA (some 12) Tryz.func173 #[.agg #[.slice A0_0 l0_0.length c0_0], .int .i64 a1] ?_;(with_reducible refine (Qbm.calls k _ _ l0_0 a1 t698 _ (uD HR0_0 HB) HC0_0.out A5.out).mono ?_);rintro e w10 ⟨rfl,hb⟩;refine ⟨_,rfl,?_⟩;replace BK696:=Aside0.mk (Qc (uK BK696) hb);replace HB:=Aside0.mk (Qa (uB HB) hb);(try clear hb)))
  go_ret2
  exact ⟨by first|rfl|(simp [Qd,Qe] <;>rfl)|(simp [*,Qd,Qe] <;>rfl),uB HB⟩
 ·
  replace c4:=Bool.eq_false_iff.mpr c4;subst c4;rw [if_neg (show ¬ (false=true) by decide)] at H;simp only [Option.some.injEq,Prod.mk.injEq] at H;obtain ⟨rfl,rfl⟩:=H;go_enter Tryz.func28,Tryz.ntmps28;go_wp2_with (first|(refine bE (N:=2) (cs:= #[.slice A0_0 l0_0.length c0_0]) (t:=26) ?_;intro gb696 hg w11 hbox hb;have BK696:=Aside0.mk (hbox);have GW696:=Aside0.mk ((gV hg (uB HB)));have GE696:=GW696;replace HB:=Aside0.mk (Qa (uB HB) hb);clear hb hbox hg;have hcz12_0:=bC BK696;have hfz12_0:=Qf BK696.out 0)|(refine gA (some 8) Tryz.func158 #[.agg #[.slice A0_0 l0_0.length c0_0], .int .i64 a1] ?_;(with_reducible refine (Qcr.calls k _ _ l0_0 a1 false _ (uD HR0_0 HB) HC0_0.out A3.out).mono ?_);rintro e w13 ⟨rfl,hb⟩;refine ⟨_,rfl,?_⟩;replace BK696:=Aside0.mk (Qc (uK BK696) hb);replace HB:=Aside0.mk (Qa (uB HB) hb);(try clear hb)))
  go_ret2
  exact ⟨by first|rfl|(simp [Qd,Qe] <;>rfl)|(simp [*,Qd,Qe] <;>rfl),uB HB⟩
def Qd3.f (k : Nat) (l0_0 : List Int) (a1 : Int) : Option (Bool) := (Qbb.f k l0_0).bind fun t700 => (if t700 = true then ((Qdo.f l0_0 a1).bind fun t701 => (if t701 = true then ((Qbu.f k l0_0 a1).bind fun t702 => (some t702)) else (some false))) else (some false))
theorem Qd3.mono : ∀ a0 a1 k, LeO (Qd3.f k a0 a1) (Qd3.f (k + 1) a0 a1) := by
 intro a0 a1 k;unfold Qd3.f
 repeat' (with_reducible first|apply Qbb.mono|apply Qbu.mono|exact LeO.refl _|exact LeO.none _|refine LeO.ite ?_ ?_|refine LeO.bind ?_ (fun _=> ?_))
set_option maxHeartbeats 8000000 in
set_option maxRecDepth 100000 in
theorem Qd3.calls (k : Nat) (A0_0 : Option Addr) (c0_0 : Nat) (l0_0 : List Int) (a1 : Int) (r : Bool) (w : World) (hr0_0 : Kd.C (Kd.int .i64) w A0_0 l0_0.length l0_0) (hc0_0 : l0_0.length ≤ c0_0) (h : Qd3.f k l0_0 a1 = some r) :
 Calls Tryz.prog 174 #[.agg #[.slice A0_0 l0_0.length c0_0], .int .i64 a1] w fun e w'=>e= .returned (.bool r)∧Below w.heap.size w w':=by
 have hu26:=Tryz.underlying26;have HR0_0:=Aside0.mk hr0_0;have HC0_0:=Aside0.mk hc0_0;clear hr0_0 hc0_0;have HB:=Aside0.mk (Below.refl w.heap.size w);have H:((Qbb.f k l0_0).bind fun t700=>(if t700=true then ((Qdo.f l0_0 a1).bind fun t701=>(if t701=true then ((Qbu.f k l0_0 a1).bind fun t702=>(some t702)) else (some false))) else (some false)))=some r:=h;clear h;obtain ⟨t700,A3,H⟩:=bs H;(try dsimp only at H)
 by_cases c4:t700=true
 ·
  subst c4;rw [if_pos rfl] at H;obtain ⟨t701,A5,H⟩:=bs H;(try dsimp only at H)
  by_cases c6:t701=true
  ·
   subst c6;rw [if_pos rfl] at H;obtain ⟨t702,A7,H⟩:=bs H;(try dsimp only at H)
   obtain rfl:=Option.some.inj H;go_enter Tryz.func174,Tryz.ntmps174;go_wp2_with (first|(refine bE (N:=2) (cs:= #[.slice A0_0 l0_0.length c0_0]) (t:=26) ?_;intro gb699 hg w8 hbox hb;have BK699:=Aside0.mk (hbox);have GW699:=Aside0.mk ((gV hg (uB HB)));have GE699:=GW699;replace HB:=Aside0.mk (Qa (uB HB) hb);clear hb hbox hg;have hcz9_0:=bC BK699;have hfz9_0:=Qf BK699.out 0)|(refine gA (some 6) Tryz.func183 #[.agg #[.slice A0_0 l0_0.length c0_0]] ?_;(with_reducible refine (Qbb.calls k _ _ l0_0 true _ (uD HR0_0 HB) HC0_0.out A3.out).mono ?_);rintro e w10 ⟨rfl,hb⟩;refine ⟨_,rfl,?_⟩;replace BK699:=Aside0.mk (Qc (uK BK699) hb);replace HB:=Aside0.mk (Qa (uB HB) hb);(try clear hb);have hcz11_0:=bC BK699;have hfz11_0:=Qf BK699.out 0)|(go_at_call 199;(with_reducible refine (Qdo.calls _ _ l0_0 a1 true _ (uD HR0_0 HB) HC0_0.out A5.out).mono ?_);rintro e w12 ⟨rfl,hb⟩;replace BK699:=Aside0.mk (Qc (uK BK699) hb);replace HB:=Aside0.mk (Qa (uB HB) hb);(try clear hb);have hcz13_0:=bC BK699;have hfz13_0:=Qf BK699.out 0)|(go_at_call 278;(with_reducible refine (Qbu.calls k _ _ l0_0 a1 t702 _ (uD HR0_0 HB) HC0_0.out A7.out).mono ?_);rintro e w14 ⟨rfl,hb⟩;replace BK699:=Aside0.mk (Qc (uK BK699) hb);replace HB:=Aside0.mk (Qa (uB HB) hb);(try clear hb)))
   go_ret
   exact ⟨by first|rfl|(simp [Qd,Qe] <;>rfl)|(simp [*,Qd,Qe] <;>rfl),uB HB⟩
  ·
   replace c6:=Bool.eq_false_iff.mpr c6;subst c6;rw [if_neg (show ¬ (false=true) by decide)] at H;obtain rfl:=Option.some.inj H;go_enter Tryz.func174,Tryz.ntmps174;go_wp2_with (first|(refine bE (N:=2) (cs:= #[.slice A0_0 l0_0.length c0_0]) (t:=26) ?_;intro gb699 hg w15 hbox hb;have BK699:=Aside0.mk (hbox);have GW699:=Aside0.mk ((gV hg (uB HB)));have GE699:=GW699;replace HB:=Aside0.mk (Qa (uB HB) hb);clear hb hbox hg;have hcz16_0:=bC BK699;have hfz16_0:=Qf BK699.out 0)|(refine gA (some 6) Tryz.func183 #[.agg #[.slice A0_0 l0_0.length c0_0]] ?_;(with_reducible refine (Qbb.calls k _ _ l0_0 true _ (uD HR0_0 HB) HC0_0.out A3.out).mono ?_);rintro e w17 ⟨rfl,hb⟩;refine ⟨_,rfl,?_⟩;replace BK699:=Aside0.mk (Qc (uK BK699) hb);replace HB:=Aside0.mk (Qa (uB HB) hb);(try clear hb);have hcz18_0:=bC BK699;have hfz18_0:=Qf BK699.out 0)|(go_at_call 199;(with_reducible refine (Qdo.calls _ _ l0_0 a1 false _ (uD HR0_0 HB) HC0_0.out A5.out).mono ?_);rintro e w19 ⟨rfl,hb⟩;replace BK699:=Aside0.mk (Qc (uK BK699) hb);replace HB:=Aside0.mk (Qa (uB HB) hb);(try clear hb)))
   go_ret
   exact ⟨by first|rfl|(simp [Qd,Qe] <;>rfl)|(simp [*,Qd,Qe] <;>rfl),uB HB⟩
 ·
  replace c4:=Bool.eq_false_iff.mpr c4;subst c4;rw [if_neg (show ¬ (false=true) by decide)] at H;obtain rfl:=Option.some.inj H;go_enter Tryz.func174,Tryz.ntmps174;go_wp2_with (first|(refine bE (N:=2) (cs:= #[.slice A0_0 l0_0.length c0_0]) (t:=26) ?_;intro gb699 hg w20 hbox hb;have BK699:=Aside0.mk (hbox);have GW699:=Aside0.mk ((gV hg (uB HB)));have GE699:=GW699;replace HB:=Aside0.mk (Qa (uB HB) hb);clear hb hbox hg;have hcz21_0:=bC BK699;have hfz21_0:=Qf BK699.out 0)|(refine gA (some 6) Tryz.func183 #[.agg #[.slice A0_0 l0_0.length c0_0]] ?_;(with_reducible refine (Qbb.calls k _ _ l0_0 false _ (uD HR0_0 HB) HC0_0.out A3.out).mono ?_);rintro e w22 ⟨rfl,hb⟩;refine ⟨_,rfl,?_⟩;replace BK699:=Aside0.mk (Qc (uK BK699) hb);replace HB:=Aside0.mk (Qa (uB HB) hb);(try clear hb)))
  go_ret
  exact ⟨by first|rfl|(simp [Qd,Qe] <;>rfl)|(simp [*,Qd,Qe] <;>rfl),uB HB⟩
def Qcf.l0 : Nat → Int → Int → Int → Int → Int → Option (Int)
 |0,_,_,_,_,_=>none
 |k+1,x1,x5,x6,x13,x14=>if x14<x13 then ((Qcq.f x1 x14).bind fun t704=>(if t704=true then (Qcf.l0 k x1 x5 x6 x13 (wrap64 (x14+1))) else (if 0≤(wrap64 ((wrap64 (x5 - 1)) - x14)) then (Qcf.l0 k x1 x5 (Go.bits .or .i64 x6 (shl .i64 1 (wrap64 ((wrap64 (x5 - 1)) - x14)))) x13 (wrap64 (x14+1))) else (none)))) else (some x6)
def Qcf.f (k : Nat) (l0_0 : List Int) (a1 : Int) : Option (Int) := Qcf.l0 k a1 (l0_0.length : Int) 0 (l0_0.length : Int) 0
theorem Qcf.mono_l : ∀ k, (∀ y0 y1 y2 y3 y4, LeO (Qcf.l0 k y0 y1 y2 y3 y4) (Qcf.l0 (k + 1) y0 y1 y2 y3 y4))
 |0=>fun _ _ _ _ _ r h=>by simp [Qcf.l0] at h
 |k+1=>by
  have ih0:=Qcf.mono_l k
  ·
   intro y0 y1 y2 y3 y4;unfold Qcf.l0
   repeat' first
   |(with_reducible exact ih0 _ _ _ _ _)
   |(with_reducible exact LeO.refl _)
   |(with_reducible exact LeO.none _)
   |(with_reducible refine LeO.ite ?_ ?_)
   |(with_reducible refine LeO.bind ?_ (fun _=> ?_))
   |exact ih0 _ _ _ _ _
   |exact LeO.none _
   |refine LeO.ite ?_ ?_
   |refine LeO.bind ?_ (fun _=> ?_)
theorem Qcf.mono : ∀ a0 a1 k, LeO (Qcf.f k a0 a1) (Qcf.f (k + 1) a0 a1) := by
 intro a0 a1 k;have ih0:=Qcf.mono_l k;unfold Qcf.f
 repeat' (with_reducible first|apply ih0|exact LeO.refl _|exact LeO.none _|refine LeO.ite ?_ ?_|refine LeO.bind ?_ (fun _=> ?_))
set_option maxHeartbeats 8000000 in
set_option maxRecDepth 100000 in
theorem Qcf.calls (k : Nat) (A0_0 : Option Addr) (c0_0 : Nat) (l0_0 : List Int) (a1 : Int) (r : Int) (w : World) (hr0_0 : Kd.C (Kd.int .i64) w A0_0 l0_0.length l0_0) (hc0_0 : l0_0.length ≤ c0_0) (h : Qcf.f k l0_0 a1 = some r) :
 Calls Tryz.prog 175 #[.agg #[.slice A0_0 l0_0.length c0_0], .int .i64 a1] w fun e w'=>e= .returned (.int .i64 r)∧Below w.heap.size w w':=by
 have hu26:=Tryz.underlying26;have HR0_0:=Aside0.mk hr0_0;have HC0_0:=Aside0.mk hc0_0;clear hr0_0 hc0_0;have HB:=Aside0.mk (Below.refl w.heap.size w);have H:(Qcf.l0 k a1 (l0_0.length:Int) 0 (l0_0.length:Int) 0)=some r:=h;clear h;have H':=Aside0.mk H;clear H;go_enter Tryz.func175,Tryz.ntmps175;go_wp2_with (first|(refine bE (N:=2) (cs:= #[.slice A0_0 l0_0.length c0_0]) (t:=26) ?_;intro gb703 hg w3 hbox hb;have BK703:=Aside0.mk (hbox);have GW703:=Aside0.mk ((gV hg (uB HB)));have GE703:=GW703;replace HB:=Aside0.mk (Qa (uB HB) hb);clear hb hbox hg;have hcz4_0:=bC BK703;have hfz4_0:=Qf BK703.out 0))
 go_loopg [6,14] k (fun kq v6 v14 w'=> ∃ (x6_1:Int) (x14_1:Int),v6= .int .i64 x6_1∧v14= .int .i64 x14_1∧Aside0 (Qcf.l0 kq a1 (l0_0.length:Int) x6_1 (l0_0.length:Int) x14_1=some r)∧Aside0 (kq≤k)∧Aside0 (w'.heap[gb703]? =some (.cells #[(.slice A0_0 l0_0.length c0_0)] 26 (0,0)))∧Aside0 (Below w.heap.size w w'))
 case atStart=>exact ⟨(0),(0),(by first|rfl|(simp;done)|(simp [*];done)),(by first|rfl|(simp;done)|(simp [*];done)),H',⟨Nat.le_refl _⟩,⟨uK BK703⟩,⟨uB HB⟩⟩
 case round=>
  clear H'
  try clear c1
  try clear p2
  try clear hcz4_0
  try clear hfz4_0
  obtain ⟨x6_1,x14_1,rfl,rfl,HA,HK1,BK703,HB⟩:=hrel;cases gk with
  |zero=>exact absurd HA.out (by simp [Qcf.l0])
  |succ k1=>
   have H:=HA.out;clear HA;simp only [Qcf.l0] at H
   by_cases c5:x14_1<(l0_0.length:Int)
   ·
    rw [if_pos c5] at H;have c5b0:=decide_eq_true c5;clear c5;obtain ⟨t704,A6,H⟩:=bs H;(try dsimp only at H)
    by_cases c7:t704=true
    ·
     subst c7;rw [if_pos rfl] at H;have H':=Aside0.mk H;clear H;go_wp2_with (first|(refine gA (some 19) Tryz.func253 #[.int .i64 a1, .int .i64 x14_1] ?_;(with_reducible refine (Qcq.calls a1 x14_1 true _ A6.out).mono ?_);rintro e w' ⟨rfl,⟨nd,rfl⟩⟩;refine ⟨_,rfl,?_⟩));go_roundg k1
     case measure=>have:=HK1.out;omega
     case rel=>exact ⟨(x6_1),(wrap64 (x14_1+1)),(by first|rfl|(simp;done)|(simp [*];done)),(by first|rfl|(simp;done)|(simp [*];done)),H',⟨by have:=HK1.out;omega⟩,⟨uK BK703⟩,⟨uB HB⟩⟩
    ·
     replace c7:=Bool.eq_false_iff.mpr c7;subst c7;rw [if_neg (show ¬ (false=true) by decide)] at H;obtain ⟨ji8,hji8⟩: ∃ j_:Int,(wrap64 ((wrap64 ((l0_0.length:Int) - 1)) - x14_1))=j_:=⟨_,rfl⟩
     replace H:(if 0≤(ji8) then (Qcf.l0 k1 a1 (l0_0.length:Int) (Go.bits .or .i64 x6_1 (shl .i64 1 (ji8))) (l0_0.length:Int) (wrap64 (x14_1+1))) else (none))=some r:=by first|(rw [hji8] at H;exact H)|(simp only [hji8] at H ⊢;exact H)
     (try rw [hji8] at A6)
     have hji8w:(IntKind.i64.wrap ((wrap64 ((l0_0.length:Int) - 1)) - x14_1))=ji8:=(Qcu _).trans hji8
     by_cases c9:0≤(ji8)
     ·
      rw [if_pos c9] at H;have c9b0:=eq_true c9;have c9b1:=decide_eq_true c9;clear c9;obtain ⟨ji10,hji10⟩: ∃ j_:Int,(shl .i64 1 (ji8))=j_:=⟨_,rfl⟩
      replace H:(Qcf.l0 k1 a1 (l0_0.length:Int) (Go.bits .or .i64 x6_1 (ji10)) (l0_0.length:Int) (wrap64 (x14_1+1)))=some r:=by first|(rw [hji10] at H;exact H)|(simp only [hji10] at H ⊢;exact H)
      (try rw [hji10] at A6)
      have hji10_:(IntKind.i64.wrap (1*2 ^ min (ji8).toNat 64))=ji10:=hji10;have hji10z:(ji8)≤64→(IntKind.i64.wrap (1*2 ^ (ji8).toNat))=ji10:=Qd1 hji10;have hji10u:(IntKind.i64.wrap (2 ^ min (ji8).toNat 64))=ji10:=by have h_:=hji10_;rw [Int.one_mul] at h_;exact h_
      have hji10v:(ji8)≤64→(IntKind.i64.wrap (2 ^ (ji8).toNat))=ji10:=fun hle_=>by have h_:=hji10z hle_;rw [Int.one_mul] at h_;exact h_
      have hji10y:(wrap64 (1*2 ^ min (ji8).toNat 64))=ji10:=(Qcu _).symm.trans hji10_;have hji10x:(ji8)≤64→(wrap64 (1*2 ^ (ji8).toNat))=ji10:=fun h_=>(Qcu _).symm.trans (hji10z h_)
      have H':=Aside0.mk H;clear H;go_wp2_with (first|(refine gA (some 19) Tryz.func253 #[.int .i64 a1, .int .i64 x14_1] ?_;(with_reducible refine (Qcq.calls a1 x14_1 false _ A6.out).mono ?_);rintro e w' ⟨rfl,⟨nd,rfl⟩⟩;refine ⟨_,rfl,?_⟩));go_roundg k1
      case measure=>have:=HK1.out;omega
      case rel=>exact ⟨(Go.bits .or .i64 x6_1 (ji10)),(wrap64 (x14_1+1)),(by first|rfl|(simp;done)|(simp only [←hji10] <;>(first|rfl|simp))|(simp [*];done)),(by first|rfl|(simp;done)|(simp [*];done)),H',⟨by have:=HK1.out;omega⟩,⟨uK BK703⟩,⟨uB HB⟩⟩
     ·
      rw [if_neg c9] at H;exact absurd H (by simp)
   ·
    rw [if_neg c5] at H;have c5b0:=decide_eq_false c5;clear c5;obtain rfl:=Option.some.inj H;go_wp2
    go_ret
    exact ⟨by first|rfl|(simp [Qd,Qe] <;>rfl)|(simp [*,Qd,Qe] <;>rfl),uB HB⟩
def Qdx.f (k : Nat) (l0_0 : List Int) (a1 : Int) : Option (Int × Bool) := (Qd3.f k l0_0 a1).bind fun t706 => (if t706 = true then ((Qcf.f k l0_0 a1).bind fun t707 => (some (t707, true))) else (some (0, false)))
theorem Qdx.mono : ∀ a0 a1 k, LeO (Qdx.f k a0 a1) (Qdx.f (k + 1) a0 a1) := by
 intro a0 a1 k;unfold Qdx.f
 repeat' (with_reducible first|apply Qcf.mono|apply Qd3.mono|exact LeO.refl _|exact LeO.none _|refine LeO.ite ?_ ?_|refine LeO.bind ?_ (fun _=> ?_))
set_option maxHeartbeats 8000000 in
set_option maxRecDepth 100000 in
theorem Qdx.calls (k : Nat) (A0_0 : Option Addr) (c0_0 : Nat) (l0_0 : List Int) (a1 : Int) (r1 : Int) (r2 : Bool) (w : World) (hr0_0 : Kd.C (Kd.int .i64) w A0_0 l0_0.length l0_0) (hc0_0 : l0_0.length ≤ c0_0) (h : Qdx.f k l0_0 a1 = some (r1, r2)) :
 Calls Tryz.prog 29 #[.agg #[.slice A0_0 l0_0.length c0_0], .int .i64 a1] w fun e w'=>e= .returned (.tuple #[.int .i64 r1, .bool r2])∧Below w.heap.size w w':=by
 have hu26:=Tryz.underlying26;have HR0_0:=Aside0.mk hr0_0;have HC0_0:=Aside0.mk hc0_0;clear hr0_0 hc0_0;have HB:=Aside0.mk (Below.refl w.heap.size w);have H:((Qd3.f k l0_0 a1).bind fun t706=>(if t706=true then ((Qcf.f k l0_0 a1).bind fun t707=>(some (t707,true))) else (some (0,false))))=some (r1,r2):=h;clear h;obtain ⟨t706,A3,H⟩:=bs H;(try dsimp only at H)
 by_cases c4:t706=true
 ·
  subst c4;rw [if_pos rfl] at H;obtain ⟨t707,A5,H⟩:=bs H;(try dsimp only at H)
  simp only [Option.some.injEq,Prod.mk.injEq] at H;obtain ⟨rfl,rfl⟩:=H;go_enter Tryz.func29,Tryz.ntmps29;go_wp2_with (first|(refine bE (N:=2) (cs:= #[.slice A0_0 l0_0.length c0_0]) (t:=26) ?_;intro gb705 hg w6 hbox hb;have BK705:=Aside0.mk (hbox);have GW705:=Aside0.mk ((gV hg (uB HB)));have GE705:=GW705;replace HB:=Aside0.mk (Qa (uB HB) hb);clear hb hbox hg;have hcz7_0:=bC BK705;have hfz7_0:=Qf BK705.out 0)|(refine gA (some 8) Tryz.func174 #[.agg #[.slice A0_0 l0_0.length c0_0], .int .i64 a1] ?_;(with_reducible refine (Qd3.calls k _ _ l0_0 a1 true _ (uD HR0_0 HB) HC0_0.out A3.out).mono ?_);rintro e w8 ⟨rfl,hb⟩;refine ⟨_,rfl,?_⟩;replace BK705:=Aside0.mk (Qc (uK BK705) hb);replace HB:=Aside0.mk (Qa (uB HB) hb);(try clear hb);have hcz9_0:=bC BK705;have hfz9_0:=Qf BK705.out 0)|(refine gA (some 12) Tryz.func175 #[.agg #[.slice A0_0 l0_0.length c0_0], .int .i64 a1] ?_;(with_reducible refine (Qcf.calls k _ _ l0_0 a1 t707 _ (uD HR0_0 HB) HC0_0.out A5.out).mono ?_);rintro e w10 ⟨rfl,hb⟩;refine ⟨_,rfl,?_⟩;replace BK705:=Aside0.mk (Qc (uK BK705) hb);replace HB:=Aside0.mk (Qa (uB HB) hb);(try clear hb)))
  go_ret2
  exact ⟨by first|rfl|(simp [Qd,Qe] <;>rfl)|(simp [*,Qd,Qe] <;>rfl),uB HB⟩
 ·
  replace c4:=Bool.eq_false_iff.mpr c4;subst c4;rw [if_neg (show ¬ (false=true) by decide)] at H;simp only [Option.some.injEq,Prod.mk.injEq] at H;obtain ⟨rfl,rfl⟩:=H;go_enter Tryz.func29,Tryz.ntmps29;go_wp2_with (first|(refine bE (N:=2) (cs:= #[.slice A0_0 l0_0.length c0_0]) (t:=26) ?_;intro gb705 hg w11 hbox hb;have BK705:=Aside0.mk (hbox);have GW705:=Aside0.mk ((gV hg (uB HB)));have GE705:=GW705;replace HB:=Aside0.mk (Qa (uB HB) hb);clear hb hbox hg;have hcz12_0:=bC BK705;have hfz12_0:=Qf BK705.out 0)|(refine gA (some 8) Tryz.func174 #[.agg #[.slice A0_0 l0_0.length c0_0], .int .i64 a1] ?_;(with_reducible refine (Qd3.calls k _ _ l0_0 a1 false _ (uD HR0_0 HB) HC0_0.out A3.out).mono ?_);rintro e w13 ⟨rfl,hb⟩;refine ⟨_,rfl,?_⟩;replace BK705:=Aside0.mk (Qc (uK BK705) hb);replace HB:=Aside0.mk (Qa (uB HB) hb);(try clear hb)))
  go_ret2
  exact ⟨by first|rfl|(simp [Qd,Qe] <;>rfl)|(simp [*,Qd,Qe] <;>rfl),uB HB⟩
def Qdv.f (k : Nat) (l0_0 : List Int) (a1 : Int) : Option (Int × Bool) := (Qcr.f k l0_0 a1).bind fun t709 => (if t709 = true then ((Qb4.f k l0_0 a1).bind fun t710 => ((Qbm.f k l0_0 t710).bind fun t711 => (some (t711, true)))) else (some (0, false)))
theorem Qdv.mono : ∀ a0 a1 k, LeO (Qdv.f k a0 a1) (Qdv.f (k + 1) a0 a1) := by
 intro a0 a1 k;unfold Qdv.f
 repeat' (with_reducible first|apply Qb4.mono|apply Qbm.mono|apply Qcr.mono|exact LeO.refl _|exact LeO.none _|refine LeO.ite ?_ ?_|refine LeO.bind ?_ (fun _=> ?_))
set_option maxHeartbeats 8000000 in
set_option maxRecDepth 100000 in
theorem Qdv.calls (k : Nat) (A0_0 : Option Addr) (c0_0 : Nat) (l0_0 : List Int) (a1 : Int) (r1 : Int) (r2 : Bool) (w : World) (hr0_0 : Kd.C (Kd.int .i64) w A0_0 l0_0.length l0_0) (hc0_0 : l0_0.length ≤ c0_0) (h : Qdv.f k l0_0 a1 = some (r1, r2)) :
 Calls Tryz.prog 30 #[.agg #[.slice A0_0 l0_0.length c0_0], .int .i64 a1] w fun e w'=>e= .returned (.tuple #[.int .i64 r1, .bool r2])∧Below w.heap.size w w':=by
 have hu26:=Tryz.underlying26;have HR0_0:=Aside0.mk hr0_0;have HC0_0:=Aside0.mk hc0_0;clear hr0_0 hc0_0;have HB:=Aside0.mk (Below.refl w.heap.size w);have H:((Qcr.f k l0_0 a1).bind fun t709=>(if t709=true then ((Qb4.f k l0_0 a1).bind fun t710=>((Qbm.f k l0_0 t710).bind fun t711=>(some (t711,true)))) else (some (0,false))))=some (r1,r2):=h;clear h;obtain ⟨t709,A3,H⟩:=bs H;(try dsimp only at H)
 by_cases c4:t709=true
 ·
  subst c4;rw [if_pos rfl] at H;obtain ⟨t710,A5,H⟩:=bs H;(try dsimp only at H)
  obtain ⟨t711,A6,H⟩:=bs H;(try dsimp only at H)
  simp only [Option.some.injEq,Prod.mk.injEq] at H;obtain ⟨rfl,rfl⟩:=H;go_enter Tryz.func30,Tryz.ntmps30
  try go_wp2_with (first|(refine bE (N:=2) (cs:= #[.slice A0_0 l0_0.length c0_0]) (t:=26) ?_;intro gb708 hg w7 hbox hb;have BK708:=Aside0.mk (hbox);have GW708:=Aside0.mk ((gV hg (uB HB)));have GE708:=GW708;replace HB:=Aside0.mk (Qa (uB HB) hb);clear hb hbox hg;have hcz8_0:=bC BK708;have hfz8_0:=Qf BK708.out 0)|(refine gA (some 8) Tryz.func158 #[.agg #[.slice A0_0 l0_0.length c0_0], .int .i64 a1] ?_;(with_reducible refine (Qcr.calls k _ _ l0_0 a1 true _ (uD HR0_0 HB) HC0_0.out A3.out).mono ?_);rintro e w9 ⟨rfl,hb⟩;refine ⟨_,rfl,?_⟩;replace BK708:=Aside0.mk (Qc (uK BK708) hb);replace HB:=Aside0.mk (Qa (uB HB) hb);(try clear hb)))
  replace BK708:=Aside0.mk (Qj BK708.out);replace HB:=Aside0.mk (Qy HB.out);refine sU (n:=7) (S:=fun w'=>w'.cell? ⟨gb708,0,none⟩=some (.slice A0_0 l0_0.length c0_0)) (ds:= []) ((Qci BK708.out 0).trans rfl) (fun hHeld=> ?_);generalize w9.drew=w10 at BK708 HB hHeld ⊢;refine pV 2 12 ?_;refine tV 0 10 hHeld ?_;refine tV 1 11 hHeld ?_;refine oV 3 (some 13) fun K hK=> ?_
  refine Qes Tryz.func176 (by kernel_rfl) rfl #[.agg #[.slice A0_0 l0_0.length c0_0], .int .i64 a1] (by rfl) rfl rfl (by (try simp only [List.map_toArray,List.map_cons,List.map_nil]);first|done|rfl|(simp only [List.length_drop,List.length_take];rfl)) ?_
  with_reducible refine (Qb4.calls k _ _ l0_0 a1 t710 _ ?side1 ?side2 A5.out).mono ?_
  (case side1=>repeat (first|exact (Kd.C_below HR0_0.out HB.out)|(with_reducible refine Kd.C_alloc ?_ _)|(with_reducible refine Kd.C_drewN ?_ _)|(with_reducible refine Kd.C_drew ?_)))
  (case side2=>exact HC0_0.out)
  rintro e w11 ⟨rfl,hb⟩;refine ⟨_,rfl,?_⟩;replace BK708:=Aside0.mk (Qc (uK BK708) hb);replace HB:=Aside0.mk (Qa (uB HB) hb)
  skip
  skip
  skip
  skip
  refine hK.out _ _ ((Qci BK708.out 0).trans rfl) (fun hHeld=> ?_);clear hK K;refine nU 13 ?_;refine oV 4 (some 14) fun K hK=> ?_
  refine Qes Tryz.func173 (by kernel_rfl) rfl #[.agg #[.slice A0_0 l0_0.length c0_0], .int .i64 t710] (by rfl) rfl rfl (by (try simp only [List.map_toArray,List.map_cons,List.map_nil]);first|done|rfl|(simp only [List.length_drop,List.length_take];rfl)) ?_
  with_reducible refine (Qbm.calls k _ _ l0_0 t710 t711 _ ?side1 ?side2 A6.out).mono ?_
  (case side1=>repeat (first|exact (Kd.C_below HR0_0.out HB.out)|(with_reducible refine Kd.C_alloc ?_ _)|(with_reducible refine Kd.C_drewN ?_ _)|(with_reducible refine Kd.C_drew ?_)))
  (case side2=>exact HC0_0.out)
  rintro e w12 ⟨rfl,hb⟩;refine ⟨_,rfl,?_⟩;replace BK708:=Aside0.mk (Qc (uK BK708) hb);replace HB:=Aside0.mk (Qa (uB HB) hb)
  skip
  skip
  skip
  skip
  refine hK.out _ _ ((Qci BK708.out 0).trans rfl) (fun hHeld=> ?_);clear hK K;refine nU 14 ?_;refine pV 5 4 ?_;refine pV 6 5 ?_;refine done_ (by kernel_rfl) ?_
  try go_wp2
  go_ret2
  exact ⟨by first|rfl|(simp [Qd,Qe] <;>rfl)|(simp [*,Qd,Qe] <;>rfl),uB HB⟩
 ·
  replace c4:=Bool.eq_false_iff.mpr c4;subst c4;rw [if_neg (show ¬ (false=true) by decide)] at H;simp only [Option.some.injEq,Prod.mk.injEq] at H;obtain ⟨rfl,rfl⟩:=H;go_enter Tryz.func30,Tryz.ntmps30;go_wp2_with (first|(refine bE (N:=2) (cs:= #[.slice A0_0 l0_0.length c0_0]) (t:=26) ?_;intro gb708 hg w13 hbox hb;have BK708:=Aside0.mk (hbox);have GW708:=Aside0.mk ((gV hg (uB HB)));have GE708:=GW708;replace HB:=Aside0.mk (Qa (uB HB) hb);clear hb hbox hg;have hcz14_0:=bC BK708;have hfz14_0:=Qf BK708.out 0)|(refine gA (some 8) Tryz.func158 #[.agg #[.slice A0_0 l0_0.length c0_0], .int .i64 a1] ?_;(with_reducible refine (Qcr.calls k _ _ l0_0 a1 false _ (uD HR0_0 HB) HC0_0.out A3.out).mono ?_);rintro e w15 ⟨rfl,hb⟩;refine ⟨_,rfl,?_⟩;replace BK708:=Aside0.mk (Qc (uK BK708) hb);replace HB:=Aside0.mk (Qa (uB HB) hb);(try clear hb)))
  go_ret2
  exact ⟨by first|rfl|(simp [Qd,Qe] <;>rfl)|(simp [*,Qd,Qe] <;>rfl),uB HB⟩
def Qco.l0 : Nat → Int → Int → List Int → Int → Int → Option (Int)
 |0,_,_,_,_,_=>none
 |k+1,x5,x6,x13,x14,x15=>if x15<x14 then (if 0≤x15 then (if x15<(x13.length:Int) then ((Qcq.f x5 x15).bind fun t715=>(if t715=true then (Qco.l0 k x5 x6 x13 x14 (wrap64 (x15+1))) else (if (Go.bits .and .i64 (rd x13 x15) x5)=0 then (Qco.l0 k x5 (Go.bits .or .i64 x6 (shl .i64 1 x15)) x13 x14 (wrap64 (x15+1))) else (Qco.l0 k x5 x6 x13 x14 (wrap64 (x15+1)))))) else (none)) else (none)) else (some x6)
def Qco.f (k : Nat) (l0_0 : List Int) (a1 : Int) : Option (Int) := (Qcd.f k l0_0 a1).bind fun t713 => (Qco.l0 k t713 0 l0_0 (l0_0.length : Int) 0)
theorem Qco.mono_l : ∀ k, (∀ y0 y1 y2 y3 y4, LeO (Qco.l0 k y0 y1 y2 y3 y4) (Qco.l0 (k + 1) y0 y1 y2 y3 y4))
 |0=>fun _ _ _ _ _ r h=>by simp [Qco.l0] at h
 |k+1=>by
  have ih0:=Qco.mono_l k
  ·
   intro y0 y1 y2 y3 y4;unfold Qco.l0
   repeat' first
   |(with_reducible exact ih0 _ _ _ _ _)
   |(with_reducible exact Qcd.mono _ _ _)
   |(with_reducible exact LeO.refl _)
   |(with_reducible exact LeO.none _)
   |(with_reducible refine LeO.ite ?_ ?_)
   |(with_reducible refine LeO.bind ?_ (fun _=> ?_))
   |exact ih0 _ _ _ _ _
   |exact Qcd.mono _ _ _
   |exact LeO.none _
   |refine LeO.ite ?_ ?_
   |refine LeO.bind ?_ (fun _=> ?_)
theorem Qco.mono : ∀ a0 a1 k, LeO (Qco.f k a0 a1) (Qco.f (k + 1) a0 a1) := by
 intro a0 a1 k;have ih0:=Qco.mono_l k;unfold Qco.f
 repeat' (with_reducible first|apply ih0|apply Qcd.mono|exact LeO.refl _|exact LeO.none _|refine LeO.ite ?_ ?_|refine LeO.bind ?_ (fun _=> ?_))
set_option maxHeartbeats 8000000 in
set_option maxRecDepth 100000 in
theorem Qco.calls (k : Nat) (A0_0 : Option Addr) (c0_0 : Nat) (l0_0 : List Int) (a1 : Int) (r : Int) (w : World) (hr0_0 : Kd.C (Kd.int .i64) w A0_0 l0_0.length l0_0) (hc0_0 : l0_0.length ≤ c0_0) (h : Qco.f k l0_0 a1 = some r) :
 Calls Tryz.prog 177 #[.agg #[.slice A0_0 l0_0.length c0_0], .int .i64 a1] w fun e w'=>e= .returned (.int .i64 r)∧Below w.heap.size w w':=by
 have hu26:=Tryz.underlying26;have HR0_0:=Aside0.mk hr0_0;have HC0_0:=Aside0.mk hc0_0;clear hr0_0 hc0_0;have HB:=Aside0.mk (Below.refl w.heap.size w);have H:((Qcd.f k l0_0 a1).bind fun t713=>(Qco.l0 k t713 0 l0_0 (l0_0.length:Int) 0))=some r:=h;clear h;obtain ⟨t713,A3,H⟩:=bs H;(try dsimp only at H)
 have H':=Aside0.mk H;clear H;go_enter Tryz.func177,Tryz.ntmps177;go_wp2_with (first|(refine bE (N:=2) (cs:= #[.slice A0_0 l0_0.length c0_0]) (t:=26) ?_;intro gb712 hg w4 hbox hb;have BK712:=Aside0.mk (hbox);have GW712:=Aside0.mk ((gV hg (uB HB)));have GE712:=GW712;replace HB:=Aside0.mk (Qa (uB HB) hb);clear hb hbox hg;have hcz5_0:=bC BK712;have hfz5_0:=Qf BK712.out 0)|(refine gA (some 11) Tryz.func292 #[.agg #[.slice A0_0 l0_0.length c0_0], .int .i64 a1] ?_;(with_reducible refine (Qcd.calls k _ _ l0_0 a1 t713 _ (uD HR0_0 HB) HC0_0.out A3.out).mono ?_);rintro e w6 ⟨rfl,hb⟩;refine ⟨_,rfl,?_⟩;replace BK712:=Aside0.mk (Qc (uK BK712) hb);replace HB:=Aside0.mk (Qa (uB HB) hb);(try clear hb);have hcz7_0:=bC BK712;have hfz7_0:=Qf BK712.out 0))
 go_loopg [6,15] k (fun kq v6 v15 w'=> ∃ (x6_1:Int) (x15_1:Int),v6= .int .i64 x6_1∧v15= .int .i64 x15_1∧Aside0 (Qco.l0 kq t713 x6_1 l0_0 (l0_0.length:Int) x15_1=some r)∧Aside0 (kq≤k)∧Aside0 (w'.heap[gb712]? =some (.cells #[(.slice A0_0 l0_0.length c0_0)] 26 (0,0)))∧Aside0 (Below w.heap.size w w'))
 case atStart=>exact ⟨(0),(0),(by first|rfl|(simp;done)|(simp [*];done)),(by first|rfl|(simp;done)|(simp [*];done)),H',⟨Nat.le_refl _⟩,⟨uK BK712⟩,⟨uB HB⟩⟩
 case round=>
  clear H'
  try clear c1
  try clear c2
  try clear p2
  try clear hcz5_0
  try clear hcz7_0
  try clear hfz5_0
  try clear hfz7_0
  obtain ⟨x6_1,x15_1,rfl,rfl,HA,HK1,BK712,HB⟩:=hrel;cases gk with
  |zero=>exact absurd HA.out (by simp [Qco.l0])
  |succ k1=>
   have H:=HA.out;clear HA;simp only [Qco.l0] at H
   by_cases c8:x15_1<(l0_0.length:Int)
   ·
    rw [if_pos c8] at H;have c8b0:=decide_eq_true c8;clear c8
    by_cases c9:0≤x15_1
    ·
     rw [if_pos c9] at H;have c9b0:=decide_eq_true c9;clear c9
     by_cases c10:x15_1<(l0_0.length:Int)
     ·
      rw [if_pos c10] at H;have c10b0:=decide_eq_true c10;clear c10;obtain ⟨t715,A11,H⟩:=bs H;(try dsimp only at H)
      by_cases c12:t715=true
      ·
       subst c12;rw [if_pos rfl] at H;have H':=Aside0.mk H;clear H;have p714:0≤(x15_1:Int):=of_decide_eq_true (by first|(with_reducible assumption)|assumption);have q714:x15_1<(l0_0.length:Int):=of_decide_eq_true (by first|(with_reducible assumption)|assumption);obtain ⟨ad714,e714,hx714_0⟩:=Kd.at_int HR0_0.out x15_1 p714 q714;cases e714;replace hx714_0:=(HB.out.cell (World.block_lt_of_cell? w _ hx714_0)).trans hx714_0;replace p714:=eq_true p714;replace q714:=eq_true q714;go_wp2_with (first|(refine gA (some 22) Tryz.func253 #[.int .i64 t713, .int .i64 x15_1] ?_;(with_reducible refine (Qcq.calls t713 x15_1 true _ A11.out).mono ?_);rintro e w' ⟨rfl,⟨nd,rfl⟩⟩;refine ⟨_,rfl,?_⟩));go_roundg k1
       case measure=>have:=HK1.out;omega
       case rel=>exact ⟨(x6_1),(wrap64 (x15_1+1)),(by first|rfl|(simp;done)|(simp [*];done)),(by first|rfl|(simp;done)|(simp [*];done)),H',⟨by have:=HK1.out;omega⟩,⟨uK BK712⟩,⟨uB HB⟩⟩
      ·
       replace c12:=Bool.eq_false_iff.mpr c12;subst c12;rw [if_neg (show ¬ (false=true) by decide)] at H
       by_cases c13:(Go.bits .and .i64 (rd l0_0 x15_1) t713)=0
       ·
        rw [if_pos c13] at H;have c13b0:((Go.bits .and .i64 (rd l0_0 x15_1) t713)==0)=true:=beq_iff_eq.mpr c13;have c13b1:((Go.bits .and .i64 (rd l0_0 x15_1) t713) !=0)=false:=bne_eq_false_iff_eq.mpr c13;clear c13;have c14b0:=eq_true (of_decide_eq_true (by first|(with_reducible assumption)|assumption):0≤x15_1);obtain ⟨ji15,hji15⟩: ∃ j_:Int,(shl .i64 1 x15_1)=j_:=⟨_,rfl⟩
        replace H:(Qco.l0 k1 t713 (Go.bits .or .i64 x6_1 (ji15)) l0_0 (l0_0.length:Int) (wrap64 (x15_1+1)))=some r:=by first|(rw [hji15] at H;exact H)|(simp only [hji15] at H ⊢;exact H)
        (try rw [hji15] at A11)
        have hji15_:(IntKind.i64.wrap (1*2 ^ min x15_1.toNat 64))=ji15:=hji15;have hji15z:x15_1≤64→(IntKind.i64.wrap (1*2 ^ x15_1.toNat))=ji15:=Qd1 hji15;have hji15u:(IntKind.i64.wrap (2 ^ min x15_1.toNat 64))=ji15:=by have h_:=hji15_;rw [Int.one_mul] at h_;exact h_
        have hji15v:x15_1≤64→(IntKind.i64.wrap (2 ^ x15_1.toNat))=ji15:=fun hle_=>by have h_:=hji15z hle_;rw [Int.one_mul] at h_;exact h_
        have hji15y:(wrap64 (1*2 ^ min x15_1.toNat 64))=ji15:=(Qcu _).symm.trans hji15_;have hji15x:x15_1≤64→(wrap64 (1*2 ^ x15_1.toNat))=ji15:=fun h_=>(Qcu _).symm.trans (hji15z h_)
        have H':=Aside0.mk H;clear H;have p714:0≤(x15_1:Int):=of_decide_eq_true (by first|(with_reducible assumption)|assumption);have q714:x15_1<(l0_0.length:Int):=of_decide_eq_true (by first|(with_reducible assumption)|assumption);obtain ⟨ad714,e714,hx714_0⟩:=Kd.at_int HR0_0.out x15_1 p714 q714;cases e714;replace hx714_0:=(HB.out.cell (World.block_lt_of_cell? w _ hx714_0)).trans hx714_0;replace p714:=eq_true p714;replace q714:=eq_true q714;go_wp2_with (first|(refine gA (some 22) Tryz.func253 #[.int .i64 t713, .int .i64 x15_1] ?_;(with_reducible refine (Qcq.calls t713 x15_1 false _ A11.out).mono ?_);rintro e w' ⟨rfl,⟨nd,rfl⟩⟩;refine ⟨_,rfl,?_⟩));go_roundg k1
        case measure=>have:=HK1.out;omega
        case rel=>exact ⟨(Go.bits .or .i64 x6_1 (ji15)),(wrap64 (x15_1+1)),(by first|rfl|(simp;done)|(simp only [←hji15] <;>(first|rfl|simp))|(simp [*];done)),(by first|rfl|(simp;done)|(simp [*];done)),H',⟨by have:=HK1.out;omega⟩,⟨uK BK712⟩,⟨uB HB⟩⟩
       ·
        rw [if_neg c13] at H;have c13b0:((Go.bits .and .i64 (rd l0_0 x15_1) t713)==0)=false:=beq_eq_false_iff_ne.mpr c13;have c13b1:((Go.bits .and .i64 (rd l0_0 x15_1) t713) !=0)=true:=bne_iff_ne.mpr c13;have H':=Aside0.mk H;clear H;have p714:0≤(x15_1:Int):=of_decide_eq_true (by first|(with_reducible assumption)|assumption);have q714:x15_1<(l0_0.length:Int):=of_decide_eq_true (by first|(with_reducible assumption)|assumption);obtain ⟨ad714,e714,hx714_0⟩:=Kd.at_int HR0_0.out x15_1 p714 q714;cases e714;replace hx714_0:=(HB.out.cell (World.block_lt_of_cell? w _ hx714_0)).trans hx714_0;replace p714:=eq_true p714;replace q714:=eq_true q714;go_wp2_with (first|(refine gA (some 22) Tryz.func253 #[.int .i64 t713, .int .i64 x15_1] ?_;(with_reducible refine (Qcq.calls t713 x15_1 false _ A11.out).mono ?_);rintro e w' ⟨rfl,⟨nd,rfl⟩⟩;refine ⟨_,rfl,?_⟩));go_roundg k1
        case measure=>have:=HK1.out;omega
        case rel=>exact ⟨(x6_1),(wrap64 (x15_1+1)),(by first|rfl|(simp;done)|(simp [*];done)),(by first|rfl|(simp;done)|(simp [*];done)),H',⟨by have:=HK1.out;omega⟩,⟨uK BK712⟩,⟨uB HB⟩⟩
     ·
      rw [if_neg c10] at H;exact absurd H (by simp)
    ·
     rw [if_neg c9] at H;exact absurd H (by simp)
   ·
    rw [if_neg c8] at H;have c8b0:=decide_eq_false c8;clear c8;obtain rfl:=Option.some.inj H;go_wp2
    go_ret
    exact ⟨by first|rfl|(simp [Qd,Qe] <;>rfl)|(simp [*,Qd,Qe] <;>rfl),uB HB⟩
def Qdy.f (k : Nat) (l0_0 : List Int) (a1 : Int) : Option (Int × Bool) := (Qd3.f k l0_0 a1).bind fun t717 => (if t717 = true then ((Qco.f k l0_0 a1).bind fun t718 => ((Qcf.f k l0_0 t718).bind fun t719 => (some (t719, true)))) else (some (0, false)))
theorem Qdy.mono : ∀ a0 a1 k, LeO (Qdy.f k a0 a1) (Qdy.f (k + 1) a0 a1) := by
 intro a0 a1 k;unfold Qdy.f
 repeat' (with_reducible first|apply Qcf.mono|apply Qco.mono|apply Qd3.mono|exact LeO.refl _|exact LeO.none _|refine LeO.ite ?_ ?_|refine LeO.bind ?_ (fun _=> ?_))
set_option maxHeartbeats 8000000 in
set_option maxRecDepth 100000 in
theorem Qdy.calls (k : Nat) (A0_0 : Option Addr) (c0_0 : Nat) (l0_0 : List Int) (a1 : Int) (r1 : Int) (r2 : Bool) (w : World) (hr0_0 : Kd.C (Kd.int .i64) w A0_0 l0_0.length l0_0) (hc0_0 : l0_0.length ≤ c0_0) (h : Qdy.f k l0_0 a1 = some (r1, r2)) :
 Calls Tryz.prog 31 #[.agg #[.slice A0_0 l0_0.length c0_0], .int .i64 a1] w fun e w'=>e= .returned (.tuple #[.int .i64 r1, .bool r2])∧Below w.heap.size w w':=by
 have hu26:=Tryz.underlying26;have HR0_0:=Aside0.mk hr0_0;have HC0_0:=Aside0.mk hc0_0;clear hr0_0 hc0_0;have HB:=Aside0.mk (Below.refl w.heap.size w);have H:((Qd3.f k l0_0 a1).bind fun t717=>(if t717=true then ((Qco.f k l0_0 a1).bind fun t718=>((Qcf.f k l0_0 t718).bind fun t719=>(some (t719,true)))) else (some (0,false))))=some (r1,r2):=h;clear h;obtain ⟨t717,A3,H⟩:=bs H;(try dsimp only at H)
 by_cases c4:t717=true
 ·
  subst c4;rw [if_pos rfl] at H;obtain ⟨t718,A5,H⟩:=bs H;(try dsimp only at H)
  obtain ⟨t719,A6,H⟩:=bs H;(try dsimp only at H)
  simp only [Option.some.injEq,Prod.mk.injEq] at H;obtain ⟨rfl,rfl⟩:=H;go_enter Tryz.func31,Tryz.ntmps31
  try go_wp2_with (first|(refine bE (N:=2) (cs:= #[.slice A0_0 l0_0.length c0_0]) (t:=26) ?_;intro gb716 hg w7 hbox hb;have BK716:=Aside0.mk (hbox);have GW716:=Aside0.mk ((gV hg (uB HB)));have GE716:=GW716;replace HB:=Aside0.mk (Qa (uB HB) hb);clear hb hbox hg;have hcz8_0:=bC BK716;have hfz8_0:=Qf BK716.out 0)|(refine gA (some 8) Tryz.func174 #[.agg #[.slice A0_0 l0_0.length c0_0], .int .i64 a1] ?_;(with_reducible refine (Qd3.calls k _ _ l0_0 a1 true _ (uD HR0_0 HB) HC0_0.out A3.out).mono ?_);rintro e w9 ⟨rfl,hb⟩;refine ⟨_,rfl,?_⟩;replace BK716:=Aside0.mk (Qc (uK BK716) hb);replace HB:=Aside0.mk (Qa (uB HB) hb);(try clear hb)))
  replace BK716:=Aside0.mk (Qj BK716.out);replace HB:=Aside0.mk (Qy HB.out);refine sU (n:=7) (S:=fun w'=>w'.cell? ⟨gb716,0,none⟩=some (.slice A0_0 l0_0.length c0_0)) (ds:= []) ((Qci BK716.out 0).trans rfl) (fun hHeld=> ?_);generalize w9.drew=w10 at BK716 HB hHeld ⊢;refine pV 2 12 ?_;refine tV 0 10 hHeld ?_;refine tV 1 11 hHeld ?_;refine oV 3 (some 13) fun K hK=> ?_
  refine Qes Tryz.func177 (by kernel_rfl) rfl #[.agg #[.slice A0_0 l0_0.length c0_0], .int .i64 a1] (by rfl) rfl rfl (by (try simp only [List.map_toArray,List.map_cons,List.map_nil]);first|done|rfl|(simp only [List.length_drop,List.length_take];rfl)) ?_
  with_reducible refine (Qco.calls k _ _ l0_0 a1 t718 _ ?side1 ?side2 A5.out).mono ?_
  (case side1=>repeat (first|exact (Kd.C_below HR0_0.out HB.out)|(with_reducible refine Kd.C_alloc ?_ _)|(with_reducible refine Kd.C_drewN ?_ _)|(with_reducible refine Kd.C_drew ?_)))
  (case side2=>exact HC0_0.out)
  rintro e w11 ⟨rfl,hb⟩;refine ⟨_,rfl,?_⟩;replace BK716:=Aside0.mk (Qc (uK BK716) hb);replace HB:=Aside0.mk (Qa (uB HB) hb)
  skip
  skip
  skip
  skip
  refine hK.out _ _ ((Qci BK716.out 0).trans rfl) (fun hHeld=> ?_);clear hK K;refine nU 13 ?_;refine oV 4 (some 14) fun K hK=> ?_
  refine Qes Tryz.func175 (by kernel_rfl) rfl #[.agg #[.slice A0_0 l0_0.length c0_0], .int .i64 t718] (by rfl) rfl rfl (by (try simp only [List.map_toArray,List.map_cons,List.map_nil]);first|done|rfl|(simp only [List.length_drop,List.length_take];rfl)) ?_
  with_reducible refine (Qcf.calls k _ _ l0_0 t718 t719 _ ?side1 ?side2 A6.out).mono ?_
  (case side1=>repeat (first|exact (Kd.C_below HR0_0.out HB.out)|(with_reducible refine Kd.C_alloc ?_ _)|(with_reducible refine Kd.C_drewN ?_ _)|(with_reducible refine Kd.C_drew ?_)))
  (case side2=>exact HC0_0.out)
  rintro e w12 ⟨rfl,hb⟩;refine ⟨_,rfl,?_⟩;replace BK716:=Aside0.mk (Qc (uK BK716) hb);replace HB:=Aside0.mk (Qa (uB HB) hb)
  skip
  skip
  skip
  skip
  refine hK.out _ _ ((Qci BK716.out 0).trans rfl) (fun hHeld=> ?_);clear hK K;refine nU 14 ?_;refine pV 5 4 ?_;refine pV 6 5 ?_;refine done_ (by kernel_rfl) ?_
  try go_wp2
  go_ret2
  exact ⟨by first|rfl|(simp [Qd,Qe] <;>rfl)|(simp [*,Qd,Qe] <;>rfl),uB HB⟩
 ·
  replace c4:=Bool.eq_false_iff.mpr c4;subst c4;rw [if_neg (show ¬ (false=true) by decide)] at H;simp only [Option.some.injEq,Prod.mk.injEq] at H;obtain ⟨rfl,rfl⟩:=H;go_enter Tryz.func31,Tryz.ntmps31;go_wp2_with (first|(refine bE (N:=2) (cs:= #[.slice A0_0 l0_0.length c0_0]) (t:=26) ?_;intro gb716 hg w13 hbox hb;have BK716:=Aside0.mk (hbox);have GW716:=Aside0.mk ((gV hg (uB HB)));have GE716:=GW716;replace HB:=Aside0.mk (Qa (uB HB) hb);clear hb hbox hg;have hcz14_0:=bC BK716;have hfz14_0:=Qf BK716.out 0)|(refine gA (some 8) Tryz.func174 #[.agg #[.slice A0_0 l0_0.length c0_0], .int .i64 a1] ?_;(with_reducible refine (Qd3.calls k _ _ l0_0 a1 false _ (uD HR0_0 HB) HC0_0.out A3.out).mono ?_);rintro e w15 ⟨rfl,hb⟩;refine ⟨_,rfl,?_⟩;replace BK716:=Aside0.mk (Qc (uK BK716) hb);replace HB:=Aside0.mk (Qa (uB HB) hb);(try clear hb)))
  go_ret2
  exact ⟨by first|rfl|(simp [Qd,Qe] <;>rfl)|(simp [*,Qd,Qe] <;>rfl),uB HB⟩
end Go.Proofs.YtkgngggppcmpfaaGreat.L
end
section
namespace Go.Proofs.YtkgngggppcmpfaaGreat.L
open Go.RowKit Go.Proofs.YtkgngggppcmpfaaGreatW.PrintWords Go.Proofs.YtkgngggppcmpfaaGreatW.PrintLast Go.Proofs.YtkgngggppcmpfaaGreatW.PrintMore
attribute [local go_sem] Qt Qv Q2 Q3 Qm Qn Qu Qw
set_option linter.unusedVariables false
set_option linter.unusedSimpArgs false
class Fn2 where
 p:Int→Int→Option Bool
def Qhr.f [Fn2] (a0 : Int) (a1 : Int) : Option Bool := Fn2.p a0 a1
end Go.Proofs.YtkgngggppcmpfaaGreat.L
end
section
namespace Go.Proofs.YtkgngggppcmpfaaGreat.L
open Go.RowKit Go.Proofs.YtkgngggppcmpfaaGreatW.PrintWords Go.Proofs.YtkgngggppcmpfaaGreatW.PrintLast Go.Proofs.YtkgngggppcmpfaaGreatW.PrintMore Go.Proofs.YtkgngggppcmpfaaGreat.X
attribute [local go_sem] Qt Qv Q2 Q3 Qm Qn Qu Qw
set_option linter.unusedVariables false
variable [Fn2]
set_option linter.unusedSimpArgs false
mutual
def Qb5.l0 : Nat → Int → Int → List Int → Option (List Int)
 |0,_,_,_=>none
 |k+1,x11,x12,x725000=>if x12<x11 then (Qb5.l1 k x12 x11 x12 x12 0 x725000) else (some x725000)
def Qb5.l1 : Nat → Int → Int → Int → Int → Int → List Int → Option (List Int)
 |0,_,_,_,_,_,_=>none
 |k+1,x6,x11,x12,x15,x16,x725000=>if x16<x15 then ((Qhr.f x16 x6).bind fun t725=>(if t725=true then (if 0≤x6 then (if x6<(x725000.length:Int) then (if 0≤x16 then (Qb5.l1 k x6 x11 x12 x15 (wrap64 (x16+1)) (x725000.set (x6:Int).toNat (Go.bits .or .i64 (rd x725000 x6) (shl .i64 1 x16)))) else (none)) else (none)) else (none)) else (Qb5.l1 k x6 x11 x12 x15 (wrap64 (x16+1)) x725000))) else (Qb5.l0 k x11 (wrap64 (x12+1)) x725000)
end
def Qb5.f (k : Nat) (a0 : Int) (a1 : Int) : Option (List Int) := if 0 ≤ a0 then (if (a0 : Int).toNat ≤ 35184372088832 then (Qb5.l0 k a0 0 (List.replicate (a0 : Int).toNat 0)) else (none)) else (none)
theorem Qb5.mono_l : ∀ k, (∀ y0 y1 y2, LeO (Qb5.l0 k y0 y1 y2) (Qb5.l0 (k + 1) y0 y1 y2)) ∧ (∀ y0 y1 y2 y3 y4 y5, LeO (Qb5.l1 k y0 y1 y2 y3 y4 y5) (Qb5.l1 (k + 1) y0 y1 y2 y3 y4 y5))
 |0=>⟨fun _ _ _ r h=>by simp [Qb5.l0] at h,fun _ _ _ _ _ _ r h=>by simp [Qb5.l1] at h⟩
 |k+1=>by
  obtain ⟨ih0,ih1⟩:=Qb5.mono_l k;refine ⟨?_,?_⟩
  ·
   intro y0 y1 y2;unfold Qb5.l0
   repeat' first
   |(with_reducible exact ih0 _ _ _)
   |(with_reducible exact ih1 _ _ _ _ _ _)
   |(with_reducible exact LeO.refl _)
   |(with_reducible exact LeO.none _)
   |(with_reducible refine LeO.ite ?_ ?_)
   |(with_reducible refine LeO.bind ?_ (fun _=> ?_))
   |exact ih0 _ _ _
   |exact ih1 _ _ _ _ _ _
   |exact LeO.none _
   |refine LeO.ite ?_ ?_
   |refine LeO.bind ?_ (fun _=> ?_)
  ·
   intro y0 y1 y2 y3 y4 y5;unfold Qb5.l1
   repeat' first
   |(with_reducible exact ih0 _ _ _)
   |(with_reducible exact ih1 _ _ _ _ _ _)
   |(with_reducible exact LeO.refl _)
   |(with_reducible exact LeO.none _)
   |(with_reducible refine LeO.ite ?_ ?_)
   |(with_reducible refine LeO.bind ?_ (fun _=> ?_))
   |exact ih0 _ _ _
   |exact ih1 _ _ _ _ _ _
   |exact LeO.none _
   |refine LeO.ite ?_ ?_
   |refine LeO.bind ?_ (fun _=> ?_)
theorem Qb5.mono : ∀ a0 a1 k, LeO (Qb5.f k a0 a1) (Qb5.f (k + 1) a0 a1) := by
 intro a0 a1 k;obtain ⟨ih0,ih1⟩:=Qb5.mono_l k;unfold Qb5.f
 repeat' first
  |(with_reducible exact ih0 _ _ _)
  |(with_reducible exact ih1 _ _ _ _ _ _)
  |(with_reducible exact LeO.refl _)
  |(with_reducible exact LeO.none _)
  |(with_reducible refine LeO.ite ?_ ?_)
  |(with_reducible refine LeO.bind ?_ (fun _=> ?_))
  |exact ih0 _ _ _
  |exact ih1 _ _ _ _ _ _
  |exact LeO.none _
  |refine LeO.ite ?_ ?_
  |refine LeO.bind ?_ (fun _=> ?_)
def Qb5.T9 : Bool × List (List Nat × List Nat) := (true, [([], []), ([0], [0]), ([], []), ([1, 2], [1, 2]), ([3], [3]), ([], []), ([5], [5]), ([4, 6], [4, 6]), ([1, 2, 0, 1, 2, 3, 4, 5, 6, 7], [1, 2]), ([8, 7, 0, 1, 2, 3, 4, 5, 6, 7], [7, 8])])
def Qb5.B9 : List Nat := [0, 1, 0, 7, 15, 0, 32, 127, 255, 511]
omit [Fn2] in
theorem Qb5.tab9 : rtab .any (Qf2 Tryz.f263 9) = Qb5.T9 := by kernel_rfl
omit [Fn2] in
theorem Qb5.bits9 : Qd9 Qb5.T9.2 Qb5.B9 = true := by kernel_rfl
set_option maxHeartbeats 8000000 in
set_option maxRecDepth 100000 in
open Go.Proofs.YtkgngggppcmpfaaGreat.X in
theorem Qb5.calls (gF : Nat) (lbF : Array Value) (eg : ∀ args w, (callFunc gF args).run Tryz.prog w = .ok (.enter gF args) w) (k : Nat) (a0 : Int) (a1 : Int) (r : List Int) (w : World) (hpF : ∀ x0_ x1_ b, Qhr.f x0_ x1_ = some b → Fv Tryz.prog gF lbF #[.int .i64 x0_, .int .i64 x1_] (.bool b) w) (h : Qb5.f k a0 a1 = some r) :
 Calls Tryz.prog 263 #[.int .i64 a0, .func (.func gF) #[] lbF] w fun e w'=> ∃ v0_:Value,e= .returned (.agg #[v0_])∧Kd.R (Kd.int .i64) 3 w' w.heap.size (fun _=>True) v0_ r∧Below w.heap.size w w':=by
 have HP:=Aside0.mk hpF;clear hpF;have hu26:=Tryz.underlying26;have HB:=Aside0.mk (Below.refl w.heap.size w);have H:(if 0≤a0 then (if (a0:Int).toNat≤35184372088832 then (Qb5.l0 k a0 0 (List.replicate (a0:Int).toNat 0)) else (none)) else (none))=some r:=h;clear h
 by_cases c3:0≤a0
 ·
  rw [if_pos c3] at H;have c3b0:=eq_true c3;have c3b1:=decide_eq_true c3;clear c3
  by_cases c4:(a0:Int).toNat≤35184372088832
  ·
   rw [if_pos c4] at H;have c4b0:=eq_true c4;have c4b1:=decide_eq_true c4;clear c4;obtain ⟨y721,hy721⟩: ∃ y_:List Int,y_=(List.replicate (a0:Int).toNat 0):=⟨_,rfl⟩
   replace H:(Qb5.l0 k a0 0 y721)=some r:=by first|(rw [hy721];with_reducible exact H)|(have H2_:=(Option.bind_some _ _).symm.trans H;rw [hy721];with_reducible exact H2_)|(have H2_:=(Option.bind_some _ _).symm.trans H;with_reducible exact H2_)|with_reducible exact H|(rw [hy721];exact H)|exact H
   have Ny721:=Aside0.mk hy721;clear hy721;have H':=Aside0.mk H;clear H;go_enter Tryz.func263,Tryz.ntmps263;go_wp2_with (first|(refine bE (N:=4) (cs:= #[.slice none 0 0]) (t:=26) ?_;intro gb720 hg w5 hbox hb;have BK720:=Aside0.mk (hbox);have GW720:=Aside0.mk ((gV hg (uB HB)));have GE720:=GW720;replace HB:=Aside0.mk (Qa (uB HB) hb);clear hb hbox hg)|((with_reducible refine Qc0 (N:=9) rfl ?_);refine Kd.R_make (Kd.int .i64) _ 3 rfl (N:=9) rfl 24 _ _ rfl a0 rfl rfl Tryz.underlying24 (.int .i64 0) 8 Qfm rfl (by decide) (by omega) 0 (ok:=fun _=>True) (okp:=fun _=>True) rfl (fun _ hk=>hk) trivial (of_decide_eq_true (by first|(with_reducible assumption)|assumption)) (Nat.le_trans (Nat.mul_le_mul_right _ (of_decide_eq_true (by first|(with_reducible assumption)|assumption):a0.toNat≤35184372088832)) (by omega)) (Below.refl _ _) (Nat.le_refl _) ?_;intro v722 w6 ho7 hb hg_ hnew_;clear hg_ hnew_;(first|rw [←Ny721.out] at ho7|(simp only [Int.reduceToNat] at ho7;rw [←Ny721.out] at ho7));have HO723:=Aside0.mk (Kd.R_lower ho7 (Qp (uB HB)));replace BK720:=Aside0.mk (Qc (uK BK720) hb);replace HB:=Aside0.mk (Qa (uB HB) hb);clear hb ho7;obtain ⟨Ao8,co8,eo8⟩:=Kd.R_slice HO723.out;subst eo8)|(refine bE (N:=5) (cs:= #[.slice none 0 0]) (t:=26) ?_;intro gb724 hg w9 hbox hb;replace HO723:=Aside0.mk (Kd.R_below (uR HO723) hb);have BK724:=Aside0.mk (hbox);have GW724:=Aside0.mk ((gV hg (uB HB)));have GE724:=GW724;replace HB:=Aside0.mk (Qa (uB HB) hb);have NB720_724:=Aside0.mk ((nL hg (Qcc (uK BK720))));have NB724_720:=Aside0.mk ((nG hg (Qcc (uK BK720))));replace BK720:=Aside0.mk (Qc (uK BK720) hb);clear hb hbox hg;have hnb10:=NB724_720.out;have hnc10:=NB720_724.out;have hcz11_0:=bC BK724;have hfz11_0:=Qf BK724.out 0))
   go_loopg [12] k (fun kq v12 w'=> ∃ (x12_1:Int) (x725000_1:List Int) (u725000:Value),v12= .int .i64 x12_1∧Aside0 (Qb5.l0 kq a0 x12_1 x725000_1=some r)∧Aside0 (kq≤k)∧Aside0 (Kd.R (Kd.int .i64) 3 w' w.heap.size (fun _=>True) u725000 x725000_1)∧Aside0 (w'.heap[gb720]? =some (.cells #[(.slice none 0 0)] 26 (0,0)))∧Aside0 (w'.heap[gb724]? =some (.cells #[u725000] 26 (0,0)))∧Aside0 (Below w.heap.size w w'))
   case atStart=>exact ⟨(0),(y721),(.slice Ao8 y721.length co8),(by first|rfl|(simp;done)|(simp [*];done)),H',⟨Nat.le_refl _⟩,⟨by (with_reducible repeat (first|apply Kd.R_alloc|apply Kd.R_drewN|apply Kd.R_drew));exact Kd.R_mono (Kd.R_far (p:=⟨gb724,0,none⟩) (Kd.R_types HO723.out BK724.out (by decide)) (fun _ hk=>hk.2) (.slice Ao8 y721.length co8)) (fun _ hk=>trivial)⟩,⟨by (with_reducible repeat (first|refine Qk ?_ _|refine Qj ?_|refine Qi ?_ _));refine Qd8 ?_ NB720_724.out _;(with_reducible repeat (first|refine Qk ?_ _|refine Qj ?_|refine Qi ?_ _));exact BK720.out⟩,⟨by (with_reducible repeat (first|refine Qk ?_ _|refine Qj ?_|refine Qi ?_ _));refine Qcs (cs:= #[.slice none 0 0]) ?_ 0 _ rfl;(with_reducible repeat (first|refine Qk ?_ _|refine Qj ?_|refine Qi ?_ _));exact BK724.out⟩,⟨by repeat (first|(with_reducible first|exact HB.out|apply Qo|apply Qq|apply Qy|refine Q4 ?_ GE720.out|refine Q4 ?_ GE724.out)|exact HB.out)⟩⟩
   case round=>
    clear H'
    try clear c1
    try clear c2
    try clear p2
    try clear c3
    try clear c3b0
    try clear c3b1
    try clear c4
    try clear c4b0
    try clear c4b1
    try clear c10
    try clear hcz11_0
    try clear hfz11_0
    obtain ⟨x12_1,x725000_1,u725000,rfl,HA,HK1,HO_725000,BK720,BK724,HB⟩:=hrel;cases gk with
    |zero=>exact absurd HA.out (by simp [Qb5.l0])
    |succ k1=>
     have H:=HA.out;clear HA;simp only [Qb5.l0] at H
     by_cases c12:x12_1<a0
     ·
      rw [if_pos c12] at H;have c12b0:=decide_eq_true c12;clear c12;have H':=Aside0.mk H;clear H;go_wp2
      go_loopg [16] k1 (fun kq v16 w'=> ∃ (x16_2:Int) (x725000_2:List Int) (u725000:Value),v16= .int .i64 x16_2∧Aside0 (Qb5.l1 kq x12_1 a0 x12_1 x12_1 x16_2 x725000_2=some r)∧Aside0 (kq≤k1)∧Aside0 (Kd.R (Kd.int .i64) 3 w' w.heap.size (fun _=>True) u725000 x725000_2)∧Aside0 (w'.heap[gb720]? =some (.cells #[(.slice none 0 0)] 26 (0,0)))∧Aside0 (w'.heap[gb724]? =some (.cells #[u725000] 26 (0,0)))∧Aside0 (Below w.heap.size w w'))
      case atStart=>exact ⟨(0),(x725000_1),(u725000),(by first|rfl|(simp;done)|(simp [*];done)),H',⟨Nat.le_refl _⟩,⟨uR HO_725000⟩,⟨uK BK720⟩,⟨uK BK724⟩,⟨uB HB⟩⟩
      case round=>
       clear H'
       try clear c1
       try clear c2
       try clear p2
       try clear c3
       try clear c3b0
       try clear c3b1
       try clear c4
       try clear c4b0
       try clear c4b1
       try clear c10
       try clear c12
       try clear c12b0
       try clear hcz11_0
       try clear hfz11_0
       try clear p2
       obtain ⟨x16_2,x725000_2,u725000,rfl,HA,HK2,HO_725000,BK720,BK724,HB⟩:=hrel;cases gk with
       |zero=>exact absurd HA.out (by simp [Qb5.l1])
       |succ k2=>
        have H:=HA.out;clear HA;simp only [Qb5.l1] at H
        by_cases c13:x16_2<x12_1
        ·
         rw [if_pos c13] at H;have c13b0:=decide_eq_true c13;clear c13;obtain ⟨t725,A14,H⟩:=bs H;(try dsimp only at H)
         by_cases c15:t725=true
         ·
          subst c15;rw [if_pos rfl] at H
          by_cases c16:0≤x12_1
          ·
           rw [if_pos c16] at H;have c16b0:=decide_eq_true c16;clear c16
           by_cases c17:x12_1<(x725000_2.length:Int)
           ·
            rw [if_pos c17] at H;have c17b0:=decide_eq_true c17;clear c17
            by_cases c18:0≤x16_2
            ·
             rw [if_pos c18] at H;have c18b0:=eq_true c18;have c18b1:=decide_eq_true c18;clear c18;obtain ⟨ji19,hji19⟩: ∃ j_:Int,(shl .i64 1 x16_2)=j_:=⟨_,rfl⟩
             replace H:(Qb5.l1 k2 x12_1 a0 x12_1 x12_1 (wrap64 (x16_2+1)) (x725000_2.set (x12_1:Int).toNat (Go.bits .or .i64 (rd x725000_2 x12_1) (ji19))))=some r:=by first|(rw [hji19] at H;exact H)|(simp only [hji19] at H ⊢;exact H)
             (try rw [hji19] at A14)
             have hji19_:(IntKind.i64.wrap (1*2 ^ min x16_2.toNat 64))=ji19:=hji19;have hji19z:x16_2≤64→(IntKind.i64.wrap (1*2 ^ x16_2.toNat))=ji19:=Qd1 hji19;have hji19u:(IntKind.i64.wrap (2 ^ min x16_2.toNat 64))=ji19:=by have h_:=hji19_;rw [Int.one_mul] at h_;exact h_
             have hji19v:x16_2≤64→(IntKind.i64.wrap (2 ^ x16_2.toNat))=ji19:=fun hle_=>by have h_:=hji19z hle_;rw [Int.one_mul] at h_;exact h_
             have hji19y:(wrap64 (1*2 ^ min x16_2.toNat 64))=ji19:=(Qcu _).symm.trans hji19_;have hji19x:x16_2≤64→(wrap64 (1*2 ^ x16_2.toNat))=ji19:=fun h_=>(Qcu _).symm.trans (hji19z h_)
             obtain ⟨y727,hy727⟩: ∃ y_:List Int,y_=(x725000_2.set (x12_1:Int).toNat (Go.bits .or .i64 (rd x725000_2 x12_1) (ji19))):=⟨_,rfl⟩
             replace H:(Qb5.l1 k2 x12_1 a0 x12_1 x12_1 (wrap64 (x16_2+1)) y727)=some r:=by first|(rw [hy727];with_reducible exact H)|(have H2_:=(Option.bind_some _ _).symm.trans H;rw [hy727];with_reducible exact H2_)|(have H2_:=(Option.bind_some _ _).symm.trans H;with_reducible exact H2_)|with_reducible exact H|(rw [hy727];exact H)|exact H
             have Ny727:=Aside0.mk hy727;clear hy727;have H':=Aside0.mk H;clear H
             try go_wp2_with (first|(go_at_fn gF;(with_reducible refine (Fv.calls (HP.out _ _ _ A14.out) (uB HB)).mono ?_);rintro e w21 ⟨rfl,hb⟩;replace HO_725000:=Aside0.mk (Kd.R_below (uR HO_725000) hb);replace BK720:=Aside0.mk (Qc (uK BK720) hb);replace BK724:=Aside0.mk (Qc (uK BK724) hb);replace HB:=Aside0.mk (Qa (uB HB) hb);(try clear hb)))
             replace HO_725000:=Aside0.mk (Kd.R_drew HO_725000.out);replace BK720:=Aside0.mk (Qj BK720.out);replace BK724:=Aside0.mk (Qj BK724.out);replace HB:=Aside0.mk (Qy HB.out);obtain ⟨Ao23,co23,eo23⟩:=Kd.R_slice HO_725000.out
             (first|subst eo23|(injection eo23 with f1_ f2_ f3_;have f4_:=f1_.symm;have f5_:=f3_.symm;clear f1_ f2_ f3_;subst f4_;subst f5_))
             have p726:0≤(x12_1:Int):=of_decide_eq_true (by first|(with_reducible assumption)|assumption);have q726:x12_1<(x725000_2.length:Int):=of_decide_eq_true (by first|(with_reducible assumption)|assumption);obtain ⟨ad726,e726,hx726_0⟩:=Kd.at_int (Kd.R_reads' HO_725000.out).2.2 x12_1 p726 q726;cases e726;replace p726:=eq_true p726;replace q726:=eq_true q726;have p20:0≤(x12_1:Int):=of_decide_eq_true (by first|(with_reducible assumption)|assumption);have q20:(x12_1:Int)<((x725000_2.length:Int):Int):=of_decide_eq_true (by first|(with_reducible assumption)|assumption);obtain ⟨go20,co20,eo20,gb20,gl20,cl20,HG20⟩:=Kd.R_form HO_725000.out (by omega)
             (first|cases eo20|(injection eo20 with ea_ en_ ec_;(first|subst ea_|(injection ea_ with ea_;subst ea_));subst ec_;clear en_))
             have GB20:=Aside0.mk gb20;have GG20:=Aside0.mk HG20;clear gb20 gl20 HG20
             (first|simp only [Qe2] at hx726_0|skip)
             obtain ⟨hx20_0,hf20_0⟩:=Kd.R_celln 0 HO_725000.out (x12_1:Int) p20 q20;replace p20:=eq_true p20;replace q20:=eq_true q20;have HP24:=Kd.R_putn HO_725000.out (x12_1:Int) (Go.bits .or .i64 (rd x725000_2 x12_1) (ji19));rw [←Ny727.out] at HP24;have HQ24:=Aside0.mk HP24;clear HP24;refine sU (n:=10) (S:=fun w'=>w'.cell? ⟨gb724,0,none⟩=some (.slice (some ⟨go20,0,none⟩) x725000_2.length co23)∧w'.cell? ⟨go20,(x12_1).toNat,none⟩=some (.int .i64 (rd x725000_2 x12_1))) (ds:= [9]) ⟨(Qci BK724.out 0).trans rfl,hx726_0⟩ (fun hHeld=> ?_);refine Qeg Qb5.tab9 Qb5.bits9 (fun HT_ HW_=> ?_);generalize w21.drew=w22 at HO_725000 BK720 BK724 HB GG20 HQ24 hf20_0 hx20_0 hx726_0 hHeld ⊢;refine pU 0 23 ?_;refine pU 2 25 ?_;refine pU 5 28 ?_;refine pU 6 29 ?_;refine tW 1 24 hHeld ?_;refine pU 3 26 ?_;refine tW 4 27 hHeld ?_;refine pU 7 30 ?_;refine pU 8 31 ?_;refine lU 9 none fun K hK=> ?_
             refine sK ?_;refine hK.out _ _ ?_;clear hK K;refine dU ?_
             try go_wp2
             go_roundg k2
             case measure=>have:=HK1.out;have:=HK2.out;omega
             case rel=>exact ⟨(wrap64 (x16_2+1)),(y727),(.slice (some ⟨go20,0,none⟩) x725000_2.length co23),(by first|rfl|(simp;done)|(simp [*];done)),H',⟨by have:=HK1.out;have:=HK2.out;omega⟩,⟨uR HQ24⟩,⟨by (with_reducible repeat (first|refine Qk ?_ _|refine Qj ?_|refine Qi ?_ _));refine Qd8 ?_ (by have h_:=Kd.R_ne HO_725000.out BK720.out (by decide);intro e_;exact h_ (by rw [e_];rfl)) _;(with_reducible repeat (first|refine Qk ?_ _|refine Qj ?_|refine Qi ?_ _));exact BK720.out⟩,⟨by (with_reducible repeat (first|refine Qk ?_ _|refine Qj ?_|refine Qi ?_ _));refine Qd8 ?_ (by have h_:=Kd.R_ne HO_725000.out BK724.out (by decide);intro e_;exact h_ (by rw [e_];rfl)) _;(with_reducible repeat (first|refine Qk ?_ _|refine Qj ?_|refine Qi ?_ _));exact BK724.out⟩,⟨by repeat (first|(with_reducible first|exact HB.out|apply Qo|apply Qq|apply Qy|refine Q4 ?_ GB20.out|refine Q4 ?_ GE720.out|refine Q4 ?_ GE724.out)|exact HB.out)⟩⟩
            ·
             rw [if_neg c18] at H;exact absurd H (by simp)
           ·
            rw [if_neg c17] at H;exact absurd H (by simp)
          ·
           rw [if_neg c16] at H;exact absurd H (by simp)
         ·
          replace c15:=Bool.eq_false_iff.mpr c15;subst c15;rw [if_neg (show ¬ (false=true) by decide)] at H;have H':=Aside0.mk H;clear H;go_wp2_with (first|(go_at_fn gF;(with_reducible refine (Fv.calls (HP.out _ _ _ A14.out) (uB HB)).mono ?_);rintro e w25 ⟨rfl,hb⟩;replace HO_725000:=Aside0.mk (Kd.R_below (uR HO_725000) hb);replace BK720:=Aside0.mk (Qc (uK BK720) hb);replace BK724:=Aside0.mk (Qc (uK BK724) hb);replace HB:=Aside0.mk (Qa (uB HB) hb);(try clear hb)));go_roundg k2
          case measure=>have:=HK1.out;have:=HK2.out;omega
          case rel=>exact ⟨(wrap64 (x16_2+1)),(x725000_2),(u725000),(by first|rfl|(simp;done)|(simp [*];done)),H',⟨by have:=HK1.out;have:=HK2.out;omega⟩,⟨uR HO_725000⟩,⟨uK BK720⟩,⟨uK BK724⟩,⟨uB HB⟩⟩
        ·
         rw [if_neg c13] at H;have c13b0:=decide_eq_false c13;clear c13;have H':=Aside0.mk H;clear H;go_wp2;go_roundg k2
         case measure=>have:=HK1.out;have:=HK2.out;omega
         case rel=>exact ⟨(wrap64 (x12_1+1)),(x725000_2),(u725000),(by first|rfl|(simp;done)|(simp [*];done)),H',⟨by have:=HK1.out;have:=HK2.out;omega⟩,⟨uR HO_725000⟩,⟨uK BK720⟩,⟨uK BK724⟩,⟨uB HB⟩⟩
     ·
      rw [if_neg c12] at H;have c12b0:=decide_eq_false c12;clear c12;obtain rfl:=Option.some.inj H;have hnb26:=NB724_720.out;have hnc26:=NB720_724.out;have hcz27_0:=bC BK724;have hfz27_0:=Qf BK724.out 0;obtain ⟨Ao28,co28,eo28⟩:=Kd.R_slice HO_725000.out;subst eo28;have hcz29_0:=bC BK720;have hfz29_0:=Qf BK720.out 0;go_wp2;refine bodyPost_ret (results_cell_row rfl _ _ gb720 26 #[.slice Ao28 x725000_1.length co28] (0,0) _ rfl (by (with_reducible repeat (first|refine Qk ?_ _|refine Qj ?_|refine Qi ?_ _));refine Qcs (cs:= #[.slice none 0 0]) ?_ 0 _ rfl;(with_reducible repeat (first|refine Qk ?_ _|refine Qj ?_|refine Qi ?_ _));exact BK720.out) Tryz.underlying26 rfl (by kernel_rfl)) rfl ?_;exact ⟨_,by first|rfl|(simp [Qd,Qe] <;>rfl)|(simp [*,Qd,Qe] <;>rfl),by (with_reducible repeat (first|apply Kd.R_alloc|apply Kd.R_drewN|apply Kd.R_drew));exact Kd.R_mono (Kd.R_far (p:=⟨gb720,0,none⟩) (Kd.R_types HO_725000.out BK720.out (by decide)) (fun _ hk=>hk.2) (.slice Ao28 x725000_1.length co28)) (fun _ hk=>trivial),by repeat (first|(with_reducible first|exact HB.out|apply Qo|apply Qq|apply Qy|refine Q4 ?_ GE720.out|refine Q4 ?_ GE724.out)|exact HB.out)⟩
  ·
   rw [if_neg c4] at H;exact absurd H (by simp)
 ·
  rw [if_neg c3] at H;exact absurd H (by simp)
end Go.Proofs.YtkgngggppcmpfaaGreat.L
end
section
namespace Go.Proofs.YtkgngggppcmpfaaGreat.L
open Go.RowKit Go.Proofs.YtkgngggppcmpfaaGreatW.PrintWords Go.Proofs.YtkgngggppcmpfaaGreatW.PrintLast Go.Proofs.YtkgngggppcmpfaaGreatW.PrintMore
attribute [local go_sem] Qt Qv Q2 Q3 Qm Qn Qu Qw
set_option linter.unusedVariables false
set_option linter.unusedSimpArgs false
theorem Qb1.w (x : Int) : IntKind.i64.wrap x = wrap64 x := by rw [IntKind.wrap_i64]; unfold wrap64; rfl
@[reducible] def Qb1.inst (l0 : List Int) : Fn2 := ⟨fun j i => if 0 ≤ wrap64 (wrap64 ((l0.length : Int) - 1) - j) ∧ wrap64 (wrap64 ((l0.length : Int) - 1) - j) < (l0.length : Int) then Qel.f (rd l0 (wrap64 (wrap64 ((l0.length : Int) - 1) - j))) (wrap64 (wrap64 ((l0.length : Int) - 1) - i)) else none⟩
def Qb1.f (k : Nat) (l0_0 : List Int) : Option (List Int) := @Qb5.f (Qb1.inst l0_0) k (l0_0.length : Int) 0
theorem Qb1.mono : ∀ a0 k, LeO (Qb1.f k a0) (Qb1.f (k + 1) a0) := fun a0 k => @Qb5.mono (Qb1.inst a0) _ _ k
open Go.Proofs.YtkgngggppcmpfaaGreat.X in
set_option maxHeartbeats 1600000 in
set_option maxRecDepth 100000 in
theorem Qb1.lit (A0 : Option Addr) (c0 : Nat) (l0 : List Int) (j i : Int) (t : Bool) (B B2 : Nat) (w : World) (hr0 : Kd.C (Kd.int .i64) w A0 l0.length l0) (hc0 : l0.length ≤ c0) (hB : B < w.heap.size) (hB2 : B2 < w.heap.size) (hc : w.cell? ⟨B, 0, none⟩ = some (.slice A0 l0.length c0)) (hn : w.cell? ⟨B2, 0, none⟩ = some (.int .i64 (l0.length : Int))) (h : (Qb1.inst l0).p j i = some t) :
 Fv Tryz.prog 293 #[.pointer (some ⟨B,0,none⟩), .pointer (some ⟨B2,0,none⟩)] #[.int .i64 j, .int .i64 i] (.bool t) w:=by
 intro W hb;have hc':W.cell? ⟨B,0,none⟩=some (.slice A0 l0.length c0):=(hb.cell (p:=⟨B,0,none⟩) hB).trans hc;have hn':W.cell? ⟨B2,0,none⟩=some (.int .i64 (l0.length:Int)):=(hb.cell (p:=⟨B2,0,none⟩) hB2).trans hn;unfold Qb1.inst at h
 by_cases hx:0≤wrap64 (wrap64 ((l0.length:Int) - 1) - j)∧wrap64 (wrap64 ((l0.length:Int) - 1) - j)<(l0.length:Int)
 ·
  have h':Qel.f (rd l0 (wrap64 (wrap64 ((l0.length:Int) - 1) - j))) (wrap64 (wrap64 ((l0.length:Int) - 1) - i))=some t:=by simpa only [if_pos hx] using h
  have HV:=Aside0.mk (show Qel.f (rd l0 (IntKind.i64.wrap (IntKind.i64.wrap ((l0.length:Int) - 1) - j))) (IntKind.i64.wrap (IntKind.i64.wrap ((l0.length:Int) - 1) - i))=some t by simp only [Qb1.w];exact h');have HR:=Kd.C_below hr0 hb;have HC:=Aside0.mk hc0;have p1:0≤IntKind.i64.wrap (IntKind.i64.wrap ((l0.length:Int) - 1) - j):=by rw [Qb1.w,Qb1.w];exact hx.1
  have q1:IntKind.i64.wrap (IntKind.i64.wrap ((l0.length:Int) - 1) - j)<(l0.length:Int):=by rw [Qb1.w,Qb1.w];exact hx.2
  obtain ⟨ad,e1,hx0⟩:=Kd.at_int HR _ p1 q1;cases e1;clear h h' hr0 hb hc hn hc0 hB hB2 HR hx;have hu:=Tryz.underlying26;go_enter Tryz.func293,Tryz.ntmps293;go_wp2_with fail
  go_region_law
   (first
    |(rw [if_pos (by rfl)];go_simp;go_at_call 294;refine (Qel.calls _ _ _ _ HV.out).mono ?_;rintro e w2 ⟨rfl,hd⟩;obtain ⟨m,rfl⟩:=hd;dsimp only))
  all_goals
   go_wp2
   go_ret
   exact ⟨rfl,by repeat (first|exact Below.refl _ _|apply Qq|apply Qhf)⟩
 ·
  exfalso;simp only [if_neg hx] at h;cases h
open Go.Proofs.YtkgngggppcmpfaaGreat.X in
set_option maxHeartbeats 800000 in
set_option maxRecDepth 100000 in
theorem Qb1.calls (k : Nat) (A0_0 : Option Addr) (c0_0 : Nat) (l0_0 : List Int) (r : List Int) (w : World) (hr0_0 : Kd.C (Kd.int .i64) w A0_0 l0_0.length l0_0) (hc0_0 : l0_0.length ≤ c0_0) (h : Qb1.f k l0_0 = some r) :
 Calls Tryz.prog 179 #[.agg #[.slice A0_0 l0_0.length c0_0]] w fun e w'=> ∃ v0_:Value,e= .returned (.agg #[v0_])∧Kd.R (Kd.int .i64) 3 w' w.heap.size (fun _=>True) v0_ r∧Below w.heap.size w w':=by
 unfold Qb1.f at h;have HF:=Aside0.mk h;have HR:=Aside0.mk hr0_0;have HC:=Aside0.mk hc0_0;clear h hr0_0 hc0_0;have hu:=Tryz.underlying26;go_enter Tryz.func179,Tryz.ntmps179;go_wp2_with fail;have B0:=Aside0.mk (Qo (Qo (Below.refl w.heap.size w) (.cells #[.slice A0_0 l0_0.length c0_0] 26)) (.cells #[.slice none 0 0] 26));refine (Qcx.calls _ _ l0_0 _ _ (Kd.C_below HR.out B0.out) HC.out rfl).mono ?_;rintro e w1 ⟨rfl,hb⟩;have B1:=Aside0.mk (Qdj B0.out hb);have K0:=Aside0.mk (show w1.heap[w.heap.size]? =some (.cells #[.slice A0_0 l0_0.length c0_0] 26 (0,0)) from Qc (g:=w.heap.size) (o:= .cells #[.slice A0_0 l0_0.length c0_0] 26 (0,0)) (Qi (Qim _ _) _) hb);have K1:=Aside0.mk (show w1.heap[w.heap.size+1]? =some (.cells #[.slice none 0 0] 26 (0,0)) from Qc (g:=w.heap.size+1) (o:= .cells #[.slice none 0 0] 26 (0,0)) (by rw [show w.heap.size+1=(w.alloc (.cells #[.slice A0_0 l0_0.length c0_0] 26)).heap.size by simp];exact Qim _ _) hb);clear hb B0;go_wp2_with fail;refine (@Qb5.calls (Qb1.inst l0_0) 293 #[.pointer (some ⟨w.heap.size,0,none⟩), .pointer (some ⟨w1.heap.size,0,none⟩)] (Qgl Tryz.func293 (by kernel_rfl) rfl) k (l0_0.length:Int) 0 r _ (fun j i b hb=>Qb1.lit A0_0 c0_0 l0_0 j i b w.heap.size w1.heap.size _ (Kd.C_below HR.out (Qo B1.out _)) HC.out (Nat.lt_of_lt_of_le (Qcc K0.out) (by simp)) (by simp) ((Qci (Qi K0.out _) 0).trans rfl) ((Qci (Qim _ _) 0).trans rfl) hb) HF.out).mono ?_;rintro e w2 ⟨v0,rfl,hR,hb⟩;have hR2:=Kd.R_lower hR (show w.heap.size≤_ from Nat.le_trans B1.out.size (by simp));have BK:=Aside0.mk (show w2.heap[w.heap.size+1]? =some (.cells #[.slice none 0 0] 26 (0,0)) from Qc (Qi K1.out _) hb);have B2:=Aside0.mk (Qdj (Qo B1.out (.cells #[.int .i64 (l0_0.length:Int)] 3)) hb);obtain ⟨Ao,co,eo⟩:=Kd.R_slice hR2;subst eo;have HO:=Aside0.mk hR2;have hcz:w2.cell? ⟨w.heap.size+1,0,none⟩=some (.slice none 0 0):=(Qci BK.out 0).trans rfl;have hfz:=Qf BK.out 0;clear hR hR2 hb K0 K1 B1;go_wp2;refine bodyPost_ret (results_cell_row rfl _ _ (w.heap.size+1) 26 #[.slice Ao r.length co] (0,0) _ rfl (by (with_reducible repeat (first|refine Qk ?_ _|refine Qj ?_|refine Qi ?_ _));refine Qcs (cs:= #[.slice none 0 0]) ?_ 0 _ rfl;(with_reducible repeat (first|refine Qk ?_ _|refine Qj ?_|refine Qi ?_ _));exact BK.out) Tryz.underlying26 rfl (by kernel_rfl)) rfl ?_;exact ⟨_,by first|rfl|(simp;done),by (with_reducible repeat (first|apply Kd.R_alloc|apply Kd.R_drewN|apply Kd.R_drew));exact Kd.R_mono (Kd.R_far (p:=⟨w.heap.size+1,0,none⟩) (Kd.R_types HO.out BK.out (by decide)) (fun _ hk=>hk.2) (.slice Ao r.length co)) (fun _ hk=>trivial),by repeat (first|(with_reducible first|exact B2.out|apply Qo|apply Qq|apply Qy|refine Q4 ?_ (Nat.le_succ _))|exact B2.out)⟩
end Go.Proofs.YtkgngggppcmpfaaGreat.L
end
section
namespace Go.Proofs.YtkgngggppcmpfaaGreat.L
open Go.RowKit Go.Proofs.YtkgngggppcmpfaaGreatW.PrintWords Go.Proofs.YtkgngggppcmpfaaGreatW.PrintLast Go.Proofs.YtkgngggppcmpfaaGreatW.PrintMore Go.Proofs.YtkgngggppcmpfaaGreat.X
attribute [local go_sem] Qt Qv Q2 Q3 Qm Qn Qu Qw
set_option linter.unusedVariables false
set_option linter.unusedSimpArgs false
def Qej.f (k : Nat) (l0_0 : List Int) : Option (List Int × Bool) := (Qbp.f k l0_0).bind fun t730 => (if t730 = true then ((Qb1.f k l0_0).bind fun t731 => (some (t731, true))) else (some (([] : List Int), false)))
theorem Qej.mono : ∀ a0 k, LeO (Qej.f k a0) (Qej.f (k + 1) a0) := by
 intro a0 k;unfold Qej.f
 repeat' (with_reducible first|apply Qbp.mono|apply Qb1.mono|exact LeO.refl _|exact LeO.none _|refine LeO.ite ?_ ?_|refine LeO.bind ?_ (fun _=> ?_))
set_option maxHeartbeats 8000000 in
set_option maxRecDepth 100000 in
theorem Qej.calls (k : Nat) (A0_0 : Option Addr) (c0_0 : Nat) (l0_0 : List Int) (r1 : List Int) (r2 : Bool) (w : World) (hr0_0 : Kd.C (Kd.int .i64) w A0_0 l0_0.length l0_0) (hc0_0 : l0_0.length ≤ c0_0) (h : Qej.f k l0_0 = some (r1, r2)) :
 Calls Tryz.prog 32 #[.agg #[.slice A0_0 l0_0.length c0_0]] w fun e w'=> ∃ v0_:Value,e= .returned (.tuple #[.agg #[v0_], .bool r2])∧Kd.R (Kd.int .i64) 3 w' w.heap.size (fun _=>True) v0_ r1∧Below w.heap.size w w':=by
 have hu26:=Tryz.underlying26;have HR0_0:=Aside0.mk hr0_0;have HC0_0:=Aside0.mk hc0_0;clear hr0_0 hc0_0;have HB:=Aside0.mk (Below.refl w.heap.size w);have H:((Qbp.f k l0_0).bind fun t730=>(if t730=true then ((Qb1.f k l0_0).bind fun t731=>(some (t731,true))) else (some (([] :List Int),false))))=some (r1,r2):=h;clear h;obtain ⟨t730,A2,H⟩:=bs H;(try dsimp only at H)
 by_cases c3:t730=true
 ·
  subst c3;rw [if_pos rfl] at H;obtain ⟨t731,A4,H⟩:=bs H;(try dsimp only at H)
  simp only [Option.some.injEq,Prod.mk.injEq] at H;obtain ⟨rfl,rfl⟩:=H;go_enter Tryz.func32,Tryz.ntmps32;go_wp2_with (first|(refine bE (N:=1) (cs:= #[.slice A0_0 l0_0.length c0_0]) (t:=26) ?_;intro gb728 hg w5 hbox hb;have BK728:=Aside0.mk (hbox);have GW728:=Aside0.mk ((gV hg (uB HB)));have GE728:=GW728;replace HB:=Aside0.mk (Qa (uB HB) hb);clear hb hbox hg)|(refine bE (N:=2) (cs:= #[.slice none 0 0]) (t:=26) ?_;intro gb729 hg w6 hbox hb;have BK729:=Aside0.mk (hbox);have GW729:=Aside0.mk ((gV hg (uB HB)));have GE729:=GW729;replace HB:=Aside0.mk (Qa (uB HB) hb);have NB728_729:=Aside0.mk ((nL hg (Qcc (uK BK728))));have NB729_728:=Aside0.mk ((nG hg (Qcc (uK BK728))));replace BK728:=Aside0.mk (Qc (uK BK728) hb);clear hb hbox hg;have hnb7:=NB728_729.out;have hnc7:=NB729_728.out;have hcz8_0:=bC BK728;have hfz8_0:=Qf BK728.out 0)|(refine gA (some 5) Tryz.func178 #[.agg #[.slice A0_0 l0_0.length c0_0]] ?_;(with_reducible refine (Qbp.calls k _ _ l0_0 true _ (uD HR0_0 HB) HC0_0.out A2.out).mono ?_);rintro e w9 ⟨rfl,hb⟩;refine ⟨_,rfl,?_⟩;replace BK728:=Aside0.mk (Qc (uK BK728) hb);replace BK729:=Aside0.mk (Qc (uK BK729) hb);replace HB:=Aside0.mk (Qa (uB HB) hb);(try clear hb);have hcz10_0:=bC BK728;have hfz10_0:=Qf BK728.out 0)|(refine gA (some 9) Tryz.func179 #[.agg #[.slice A0_0 l0_0.length c0_0]] ?_;(with_reducible refine (Qb1.calls k _ _ l0_0 t731 _ (uD HR0_0 HB) HC0_0.out A4.out).mono ?_);rintro e w11 ⟨v732,rfl,ho0,hb⟩;refine ⟨_,rfl,?_⟩;have HO733:=Aside0.mk (Kd.R_lower ho0 (Qp (uB HB)));replace BK728:=Aside0.mk (Qc (uK BK728) hb);replace BK729:=Aside0.mk (Qc (uK BK729) hb);replace HB:=Aside0.mk (Qa (uB HB) hb);(try clear hb ho0);obtain ⟨Ao12,co12,eo12⟩:=Kd.R_slice HO733.out;subst eo12;have hcz13_0:=bC BK729;have hfz13_0:=Qf BK729.out 0));refine bodyPost_ret (Qd7 rfl _ _ gb729 26 #[.slice Ao12 t731.length co12] (0,0) _ rfl (by (with_reducible repeat (first|refine Qk ?_ _|refine Qj ?_|refine Qi ?_ _));refine Qcs (cs:= #[.slice none 0 0]) ?_ 0 _ rfl;(with_reducible repeat (first|refine Qk ?_ _|refine Qj ?_|refine Qi ?_ _));exact BK729.out) Tryz.underlying26 rfl (by kernel_rfl)) rfl ?_;exact ⟨_,by first|rfl|(simp [Qd,Qe] <;>rfl)|(simp [*,Qd,Qe] <;>rfl),by (with_reducible repeat (first|apply Kd.R_alloc|apply Kd.R_drewN|apply Kd.R_drew));exact Kd.R_mono (Kd.R_far (p:=⟨gb729,0,none⟩) (Kd.R_types HO733.out BK729.out (by decide)) (fun _ hk=>hk.2) (.slice Ao12 t731.length co12)) (fun _ hk=>trivial),by repeat (first|(with_reducible first|exact HB.out|apply Qo|apply Qq|apply Qy|refine Q4 ?_ GE728.out|refine Q4 ?_ GE729.out)|exact HB.out)⟩
 ·
  replace c3:=Bool.eq_false_iff.mpr c3;subst c3;rw [if_neg (show ¬ (false=true) by decide)] at H;simp only [Option.some.injEq,Prod.mk.injEq] at H;obtain ⟨rfl,rfl⟩:=H;go_enter Tryz.func32,Tryz.ntmps32;go_wp2_with (first|(refine bE (N:=1) (cs:= #[.slice A0_0 l0_0.length c0_0]) (t:=26) ?_;intro gb728 hg w14 hbox hb;have BK728:=Aside0.mk (hbox);have GW728:=Aside0.mk ((gV hg (uB HB)));have GE728:=GW728;replace HB:=Aside0.mk (Qa (uB HB) hb);clear hb hbox hg)|(refine bE (N:=2) (cs:= #[.slice none 0 0]) (t:=26) ?_;intro gb729 hg w15 hbox hb;have BK729:=Aside0.mk (hbox);have GW729:=Aside0.mk ((gV hg (uB HB)));have GE729:=GW729;replace HB:=Aside0.mk (Qa (uB HB) hb);have NB728_729:=Aside0.mk ((nL hg (Qcc (uK BK728))));have NB729_728:=Aside0.mk ((nG hg (Qcc (uK BK728))));replace BK728:=Aside0.mk (Qc (uK BK728) hb);clear hb hbox hg;have hnb16:=NB728_729.out;have hnc16:=NB729_728.out;have hcz17_0:=bC BK728;have hfz17_0:=Qf BK728.out 0)|(refine gA (some 5) Tryz.func178 #[.agg #[.slice A0_0 l0_0.length c0_0]] ?_;(with_reducible refine (Qbp.calls k _ _ l0_0 false _ (uD HR0_0 HB) HC0_0.out A2.out).mono ?_);rintro e w18 ⟨rfl,hb⟩;refine ⟨_,rfl,?_⟩;replace BK728:=Aside0.mk (Qc (uK BK728) hb);replace BK729:=Aside0.mk (Qc (uK BK729) hb);replace HB:=Aside0.mk (Qa (uB HB) hb);(try clear hb);have hcz19_0:=bC BK729;have hfz19_0:=Qf BK729.out 0));refine bodyPost_ret (Qd7 rfl _ _ gb729 26 #[.slice none 0 0] (0,0) _ rfl (by (with_reducible repeat (first|refine Qk ?_ _|refine Qj ?_|refine Qi ?_ _));refine Qcs (cs:= #[.slice none 0 0]) ?_ 0 _ rfl;(with_reducible repeat (first|refine Qk ?_ _|refine Qj ?_|refine Qi ?_ _));exact BK729.out) Tryz.underlying26 rfl (by kernel_rfl)) rfl ?_;exact ⟨_,by first|rfl|(simp [Qd,Qe] <;>rfl)|(simp [*,Qd,Qe] <;>rfl),by first|exact Kd.R_nil _ _ _ _ _|exact Kd.N_nil _ _ _ _ _|exact Kd.V_nil _ _ _ _ _|exact Kd.Q_nil _ _ _ _ _|exact Kd.S_nil _ _ _ _ _,by repeat (first|(with_reducible first|exact HB.out|apply Qo|apply Qq|apply Qy|refine Q4 ?_ GE728.out|refine Q4 ?_ GE729.out)|exact HB.out)⟩
def Qd5.f (k : Nat) (l0_0 : List Int) (a1 : Int) : Option (Bool × Bool) := (Qdz.f k l0_0 a1).bind fun t735 => (if t735 = true then ((Qbe.f k l0_0 a1).bind fun t736 => (some ((t736 == a1), true))) else (some (false, false)))
theorem Qd5.mono : ∀ a0 a1 k, LeO (Qd5.f k a0 a1) (Qd5.f (k + 1) a0 a1) := by
 intro a0 a1 k;unfold Qd5.f
 repeat' (with_reducible first|apply Qbe.mono|apply Qdz.mono|exact LeO.refl _|exact LeO.none _|refine LeO.ite ?_ ?_|refine LeO.bind ?_ (fun _=> ?_))
set_option maxHeartbeats 8000000 in
set_option maxRecDepth 100000 in
theorem Qd5.calls (k : Nat) (A0_0 : Option Addr) (c0_0 : Nat) (l0_0 : List Int) (a1 : Int) (r1 : Bool) (r2 : Bool) (w : World) (hr0_0 : Kd.C (Kd.int .i64) w A0_0 l0_0.length l0_0) (hc0_0 : l0_0.length ≤ c0_0) (h : Qd5.f k l0_0 a1 = some (r1, r2)) :
 Calls Tryz.prog 180 #[.agg #[.slice A0_0 l0_0.length c0_0], .int .i64 a1] w fun e w'=>e= .returned (.tuple #[.bool r1, .bool r2])∧Below w.heap.size w w':=by
 have hu26:=Tryz.underlying26;have HR0_0:=Aside0.mk hr0_0;have HC0_0:=Aside0.mk hc0_0;clear hr0_0 hc0_0;have HB:=Aside0.mk (Below.refl w.heap.size w);have H:((Qdz.f k l0_0 a1).bind fun t735=>(if t735=true then ((Qbe.f k l0_0 a1).bind fun t736=>(some ((t736==a1),true))) else (some (false,false))))=some (r1,r2):=h;clear h;obtain ⟨t735,A3,H⟩:=bs H;(try dsimp only at H)
 by_cases c4:t735=true
 ·
  subst c4;rw [if_pos rfl] at H;obtain ⟨t736,A5,H⟩:=bs H;(try dsimp only at H)
  simp only [Option.some.injEq,Prod.mk.injEq] at H;obtain ⟨rfl,rfl⟩:=H;go_enter Tryz.func180,Tryz.ntmps180;go_wp2_with (first|(refine bE (N:=2) (cs:= #[.slice A0_0 l0_0.length c0_0]) (t:=26) ?_;intro gb734 hg w6 hbox hb;have BK734:=Aside0.mk (hbox);have GW734:=Aside0.mk ((gV hg (uB HB)));have GE734:=GW734;replace HB:=Aside0.mk (Qa (uB HB) hb);clear hb hbox hg;have hcz7_0:=bC BK734;have hfz7_0:=Qf BK734.out 0)|(refine gA (some 8) Tryz.func197 #[.agg #[.slice A0_0 l0_0.length c0_0], .int .i64 a1] ?_;(with_reducible refine (Qdz.calls k _ _ l0_0 a1 true _ (uD HR0_0 HB) HC0_0.out A3.out).mono ?_);rintro e w8 ⟨rfl,hb⟩;refine ⟨_,rfl,?_⟩;replace BK734:=Aside0.mk (Qc (uK BK734) hb);replace HB:=Aside0.mk (Qa (uB HB) hb);(try clear hb);have hcz9_0:=bC BK734;have hfz9_0:=Qf BK734.out 0)|(refine gA (some 12) Tryz.func283 #[.agg #[.slice A0_0 l0_0.length c0_0], .int .i64 a1] ?_;(with_reducible refine (Qbe.calls k _ _ l0_0 a1 t736 _ (uD HR0_0 HB) HC0_0.out A5.out).mono ?_);rintro e w10 ⟨rfl,hb⟩;refine ⟨_,rfl,?_⟩;replace BK734:=Aside0.mk (Qc (uK BK734) hb);replace HB:=Aside0.mk (Qa (uB HB) hb);(try clear hb)))
  go_ret2
  exact ⟨by first|rfl|(simp [Qd,Qe] <;>rfl)|(simp [*,Qd,Qe] <;>rfl),uB HB⟩
 ·
  replace c4:=Bool.eq_false_iff.mpr c4;subst c4;rw [if_neg (show ¬ (false=true) by decide)] at H;simp only [Option.some.injEq,Prod.mk.injEq] at H;obtain ⟨rfl,rfl⟩:=H;go_enter Tryz.func180,Tryz.ntmps180;go_wp2_with (first|(refine bE (N:=2) (cs:= #[.slice A0_0 l0_0.length c0_0]) (t:=26) ?_;intro gb734 hg w11 hbox hb;have BK734:=Aside0.mk (hbox);have GW734:=Aside0.mk ((gV hg (uB HB)));have GE734:=GW734;replace HB:=Aside0.mk (Qa (uB HB) hb);clear hb hbox hg;have hcz12_0:=bC BK734;have hfz12_0:=Qf BK734.out 0)|(refine gA (some 8) Tryz.func197 #[.agg #[.slice A0_0 l0_0.length c0_0], .int .i64 a1] ?_;(with_reducible refine (Qdz.calls k _ _ l0_0 a1 false _ (uD HR0_0 HB) HC0_0.out A3.out).mono ?_);rintro e w13 ⟨rfl,hb⟩;refine ⟨_,rfl,?_⟩;replace BK734:=Aside0.mk (Qc (uK BK734) hb);replace HB:=Aside0.mk (Qa (uB HB) hb);(try clear hb)))
  go_ret2
  exact ⟨by first|rfl|(simp [Qd,Qe] <;>rfl)|(simp [*,Qd,Qe] <;>rfl),uB HB⟩
def Qek.f (k : Nat) (l0_0 : List Int) (a1 : Int) : Option (Bool) := (Qd5.f k l0_0 a1).bind fun bt738 => (if bt738.2 = true then (some bt738.1) else (some false))
theorem Qek.mono : ∀ a0 a1 k, LeO (Qek.f k a0 a1) (Qek.f (k + 1) a0 a1) := by
 intro a0 a1 k;unfold Qek.f
 repeat' (with_reducible first|apply Qd5.mono|exact LeO.refl _|exact LeO.none _|refine LeO.ite ?_ ?_|refine LeO.bind ?_ (fun _=> ?_))
set_option maxHeartbeats 8000000 in
set_option maxRecDepth 100000 in
theorem Qek.calls (k : Nat) (A0_0 : Option Addr) (c0_0 : Nat) (l0_0 : List Int) (a1 : Int) (r : Bool) (w : World) (hr0_0 : Kd.C (Kd.int .i64) w A0_0 l0_0.length l0_0) (hc0_0 : l0_0.length ≤ c0_0) (h : Qek.f k l0_0 a1 = some r) :
 Calls Tryz.prog 33 #[.agg #[.slice A0_0 l0_0.length c0_0], .int .i64 a1] w fun e w'=>e= .returned (.bool r)∧Below w.heap.size w w':=by
 have hu26:=Tryz.underlying26;have HR0_0:=Aside0.mk hr0_0;have HC0_0:=Aside0.mk hc0_0;clear hr0_0 hc0_0;have HB:=Aside0.mk (Below.refl w.heap.size w);have H:((Qd5.f k l0_0 a1).bind fun bt738=>(if bt738.2=true then (some bt738.1) else (some false)))=some r:=h;clear h;obtain ⟨⟨t738,t739⟩,A3,H⟩:=bs H;(try dsimp only at H)
 by_cases c4:t739=true
 ·
  subst c4;rw [if_pos rfl] at H;obtain rfl:=Option.some.inj H;go_enter Tryz.func33,Tryz.ntmps33;go_wp2_with (first|(refine bE (N:=2) (cs:= #[.slice A0_0 l0_0.length c0_0]) (t:=26) ?_;intro gb737 hg w5 hbox hb;have BK737:=Aside0.mk (hbox);have GW737:=Aside0.mk ((gV hg (uB HB)));have GE737:=GW737;replace HB:=Aside0.mk (Qa (uB HB) hb);clear hb hbox hg;have hcz6_0:=bC BK737;have hfz6_0:=Qf BK737.out 0)|(refine gA (some 10) Tryz.func180 #[.agg #[.slice A0_0 l0_0.length c0_0], .int .i64 a1] ?_;(with_reducible refine (Qd5.calls k _ _ l0_0 a1 t738 true _ (uD HR0_0 HB) HC0_0.out A3.out).mono ?_);rintro e w7 ⟨rfl,hb⟩;refine ⟨_,rfl,?_⟩;replace BK737:=Aside0.mk (Qc (uK BK737) hb);replace HB:=Aside0.mk (Qa (uB HB) hb);(try clear hb)))
  go_ret
  exact ⟨by first|rfl|(simp [Qd,Qe] <;>rfl)|(simp [*,Qd,Qe] <;>rfl),uB HB⟩
 ·
  replace c4:=Bool.eq_false_iff.mpr c4;subst c4;rw [if_neg (show ¬ (false=true) by decide)] at H;obtain rfl:=Option.some.inj H;go_enter Tryz.func33,Tryz.ntmps33;go_wp2_with (first|(refine bE (N:=2) (cs:= #[.slice A0_0 l0_0.length c0_0]) (t:=26) ?_;intro gb737 hg w8 hbox hb;have BK737:=Aside0.mk (hbox);have GW737:=Aside0.mk ((gV hg (uB HB)));have GE737:=GW737;replace HB:=Aside0.mk (Qa (uB HB) hb);clear hb hbox hg;have hcz9_0:=bC BK737;have hfz9_0:=Qf BK737.out 0)|(refine gA (some 10) Tryz.func180 #[.agg #[.slice A0_0 l0_0.length c0_0], .int .i64 a1] ?_;(with_reducible refine (Qd5.calls k _ _ l0_0 a1 t738 false _ (uD HR0_0 HB) HC0_0.out A3.out).mono ?_);rintro e w10 ⟨rfl,hb⟩;refine ⟨_,rfl,?_⟩;replace BK737:=Aside0.mk (Qc (uK BK737) hb);replace HB:=Aside0.mk (Qa (uB HB) hb);(try clear hb)))
  go_ret
  exact ⟨by first|rfl|(simp [Qd,Qe] <;>rfl)|(simp [*,Qd,Qe] <;>rfl),uB HB⟩
end Go.Proofs.YtkgngggppcmpfaaGreat.L
end
