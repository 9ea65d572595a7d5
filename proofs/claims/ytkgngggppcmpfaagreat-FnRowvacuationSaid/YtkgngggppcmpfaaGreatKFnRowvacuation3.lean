/- Laws about the given program: the law FnRowvacuation answers true for every input that its row lets in; no condition is added to the given statement. Contracts of the Go functions that it reaches, and the plain proof over lists. -/
import Derived.Test.YtkgngggppcmpfaaGreatWFnRowvacuation0
import Derived.Test.YtkgngggppcmpfaaGreatKFnRowvacuation0
import Derived.Test.YtkgngggppcmpfaaGreatKFnRowvacuation1
import Derived.Test.YtkgngggppcmpfaaGreatKFnRowvacuation2
section
namespace Go.Proofs.YtkgngggppcmpfaaGreat.L
open Go.RowKit Go.Proofs.YtkgngggppcmpfaaGreatW.PrintWords Go.Proofs.YtkgngggppcmpfaaGreatW.PrintLast Go.Proofs.YtkgngggppcmpfaaGreatW.PrintMore Go.Proofs.YtkgngggppcmpfaaGreat.X
attribute [local go_sem] Qt Qv Q2 Q3 Qm Qn Qu Qw
set_option linter.unusedVariables false
set_option linter.unusedSimpArgs false
mutual
def Q0.j1 : Nat → List Int → Int → Int → List Int → Option (List Int × Int × Int)
 |0,_,_,_,_=>none
 |k+1,x1000,x1001,x1002,x298000=>(Qcv.f x1000 x1001 x1002 4).bind fun bt305=>(if bt305.1=true then ((Qz.f x1000 bt305.2.1 bt305.2.2 3).bind fun bt308=>((Qx.f k (wrap64 (1+bt308.1))).bind fun bt311=>(some (bt311.1,bt308.2.1,bt308.2.2)))) else (some (x298000,bt305.2.1,bt305.2.2)))
def Q0.l0 : Nat → Int → Int → List Int → Int → Int → List Int → Option (List Int × Int × Int)
 |0,_,_,_,_,_,_=>none
 |k+1,x1,x6,x1000,x1001,x1002,x298000=>if x6<4 then ((Qbb.f k x298000).bind fun t298=>(if t298=true then ((Qca.f k x298000).bind fun t299=>(if t299=true then (Q0.j1 k x1000 x1001 x1002 x298000) else ((Qr.f k x1000 x1001 x1002 x1).bind fun bt300=>(Q0.l0 k x1 (wrap64 (x6+1)) x1000 bt300.2.1 bt300.2.2 bt300.1)))) else (Q0.j1 k x1000 x1001 x1002 x298000))) else (Q0.j1 k x1000 x1001 x1002 x298000)
end
def Q0.f (k : Nat) (s0_0 : List Int) (s0_1 : Int) (s0_2 : Int) (a1 : Int) : Option (List Int × Int × Int) := (Qbl.f k s0_0 s0_1 s0_2 a1).bind fun bt292 => (Q0.l0 k a1 0 s0_0 bt292.2.1 bt292.2.2 bt292.1)
theorem Q0.mono_l : ∀ k, (∀ y0 y1 y2 y3, LeO (Q0.j1 k y0 y1 y2 y3) (Q0.j1 (k + 1) y0 y1 y2 y3)) ∧ (∀ y0 y1 y2 y3 y4 y5, LeO (Q0.l0 k y0 y1 y2 y3 y4 y5) (Q0.l0 (k + 1) y0 y1 y2 y3 y4 y5))
 |0=>⟨fun _ _ _ _ r h=>by simp [Q0.j1] at h,fun _ _ _ _ _ _ r h=>by simp [Q0.l0] at h⟩
 |k+1=>by
  obtain ⟨ih0,ih1⟩:=Q0.mono_l k;refine ⟨?_,?_⟩
  all_goals
   intros
   first|unfold Q0.j1|unfold Q0.l0
   repeat' (with_reducible first|apply ih0|apply ih1|apply Qx.mono|apply Qbl.mono|apply Qr.mono|apply Qbb.mono|apply Qca.mono|exact LeO.refl _|exact LeO.none _|refine LeO.ite ?_ ?_|refine LeO.bind ?_ (fun _=> ?_))
theorem Q0.mono : ∀ a0 a1 a2 a3 k, LeO (Q0.f k a0 a1 a2 a3) (Q0.f (k + 1) a0 a1 a2 a3) := by
 intro a0 a1 a2 a3 k;obtain ⟨ih0,ih1⟩:=Q0.mono_l k;unfold Q0.f
 repeat' (with_reducible first|apply ih0|apply ih1|apply Qx.mono|apply Qbl.mono|apply Qr.mono|apply Qbb.mono|apply Qca.mono|exact LeO.refl _|exact LeO.none _|refine LeO.ite ?_ ?_|refine LeO.bind ?_ (fun _=> ?_))
set_option maxHeartbeats 8000000 in
set_option maxRecDepth 100000 in
theorem Q0.calls (k : Nat) (g : Nat) (s0_0 : List Int) (s0_1 : Int) (s0_2 : Int) (a1 : Int) (r1 : List Int) (r2 : Int) (r3 : Int) (w0 w : World) (hI : Qb w0 w g s0_0 s0_1 s0_2) (hB : Below w0.heap.size w0 w) (h : Q0.f k s0_0 s0_1 s0_2 a1 = some (r1, r2, r3)) :
 Calls Tryz.prog 164 #[.pointer (some ⟨g,0,none⟩), .int .i64 a1] w fun e w'=> ∃ v0_:Value,e= .returned (.agg #[v0_])∧Kd.R (Kd.int .i64) 3 w' w.heap.size (fun _=>True) v0_ r1∧Qb w0 w' g s0_0 r2 r3∧Below w0.heap.size w0 w'∧Qg w w' g none:=by
 have hu26:=Tryz.underlying26;have HI0:=Aside0.mk hI;have HK:=Aside0.mk (Qg.refl w g none);have HL:=Aside0.mk hB.size;clear hI;have HW0:=Aside0.mk hB.size;have HB:=Aside0.mk hB;clear hB;have H:((Qbl.f k s0_0 s0_1 s0_2 a1).bind fun bt292=>(Q0.l0 k a1 0 s0_0 bt292.2.1 bt292.2.2 bt292.1))=some (r1,r2,r3):=h;clear h;obtain ⟨⟨t292,t295,t296⟩,A3,H⟩:=bs H;(try dsimp only at H)
 have HC4:=Aside0.mk H;clear H;go_enter Tryz.func164,Tryz.ntmps164
 go_upto_block 0 with (first|(refine bE (N:=4) (cs:= #[.slice none 0 0]) (t:=26) ?_;intro gb291 hg w5 hbox hb;replace HB:=Aside0.mk (Qa (uB HB) hb);have BK291:=Aside0.mk (hbox);have GW291:=Aside0.mk ((gW hg (uP HK)));have GE291:=Aside0.mk ((Nat.le_trans HW0.out (gW hg (uP HK))));replace HK:=Aside0.mk (Qg.trans (uP HK) (Qg.of_below hb g none) (.inl rfl));have NB0_291:=Aside0.mk ((nL hg (Qb.lt (Qb.u HI0))));have NB291_0:=Aside0.mk ((nG hg (Qb.lt (Qb.u HI0))));replace HI0:=Aside0.mk (Qb.below (Qb.u HI0) hb);clear hb hbox hg)|(refine gA (some 11) Tryz.func181 #[.pointer (some ⟨g,0,none⟩), .int .i64 a1] ?_;(with_reducible refine (Qbl.calls k g s0_0 s0_1 s0_2 a1 t292 t295 t296 w0 _ (Qb.u HI0) (uB HB) A3.out).mono ?_);rintro e w6 ⟨v293,rfl,ho0,hi,hb,hk⟩;refine ⟨_,rfl,?_⟩;replace BK291:=Aside0.mk (Qg.blk hk (g':=gb291) (o:= .cells #[.slice none 0 0] 26 (0,0)) (uK BK291) NB291_0.out (by simp));have HO294:=Aside0.mk (Kd.R_lower ho0 (Qb3 (w:=w) (g:=g) (row:=none) (vK HK)));replace HK:=Aside0.mk (Qg.trans (vK HK) hk (.inl rfl));replace HB:=Aside0.mk (hb);replace HI0:=Aside0.mk (hi);(try clear hb hk hi ho0))|(refine bE (N:=5) (cs:= #[.slice none 0 0]) (t:=26) ?_;intro gb297 hg w7 hbox hb;replace HO294:=Aside0.mk (Kd.R_below (uR HO294) hb);replace HB:=Aside0.mk (Qa (uB HB) hb);have BK297:=Aside0.mk (hbox);have GW297:=Aside0.mk ((by rw [hg];exact (Qb3 (w:=w) (g:=g) (row:=none) (vK HK)):w.heap.size≤gb297));have GE297:=Aside0.mk ((Nat.le_trans HW0.out (by rw [hg];exact (Qb3 (w:=w) (g:=g) (row:=none) (vK HK)):w.heap.size≤gb297):w0.heap.size≤gb297));replace HK:=Aside0.mk (Qg.trans (vK HK) (Qg.of_below hb g none) (.inl rfl));have NB291_297:=Aside0.mk ((nL hg (Qcc (uK BK291))));have NB297_291:=Aside0.mk ((nG hg (Qcc (uK BK291))));replace BK291:=Aside0.mk (Qc (uK BK291) hb);have NB0_297:=Aside0.mk ((nL hg (Qb.lt (Qb.u HI0))));have NB297_0:=Aside0.mk ((nG hg (Qb.lt (Qb.u HI0))));replace HI0:=Aside0.mk (Qb.below (Qb.u HI0) hb);clear hb hbox hg;obtain ⟨Ao8,co8,eo8⟩:=Kd.R_slice HO294.out;subst eo8;have hnb9:=NB297_291.out;have hnc9:=NB291_297.out;have hnb10:=NB297_0.out;have hnc10:=NB0_297.out;have hcz11_0:=bC BK297;have hfz11_0:=Qf BK297.out 0))
 (try simp only [Act.put,List.setIfInBounds_toArray,List.set_cons_zero,List.set_cons_succ])
 go_cut [] (fun wc=> ∃ (kq:Nat) (x1001_3:Int) (x1002_3:Int) (x298000_3:List Int) (u298000:Value),Aside0 (Q0.j1 kq s0_0 x1001_3 x1002_3 x298000_3=some (r1,r2,r3))∧Aside0 (kq≤k)∧Aside0 (Kd.R (Kd.int .i64) 3 wc w.heap.size (fun _=>True) u298000 x298000_3)∧Aside0 (wc.heap[gb291]? =some (.cells #[(.slice none 0 0)] 26 (0,0)))∧Aside0 (wc.heap[gb297]? =some (.cells #[u298000] 26 (0,0)))∧Aside0 (Qb w0 wc g s0_0 x1001_3 x1002_3)∧Aside0 (Qg w wc g none)∧Aside0 (Below w0.heap.size w0 wc))
 case first=>
  have H:=HC4.out;clear HC4;have H':=Aside0.mk H;clear H;go_wp2
  go_loopg [6] k (fun kq v6 w'=> ∃ (x6_1:Int) (x1001_1:Int) (x1002_1:Int) (x298000_1:List Int) (u298000:Value),v6= .int .i64 x6_1∧Aside0 (Q0.l0 kq a1 x6_1 s0_0 x1001_1 x1002_1 x298000_1=some (r1,r2,r3))∧Aside0 (kq≤k)∧Aside0 (Kd.R (Kd.int .i64) 3 w' w.heap.size (fun _=>True) u298000 x298000_1)∧Aside0 (w'.heap[gb291]? =some (.cells #[(.slice none 0 0)] 26 (0,0)))∧Aside0 (w'.heap[gb297]? =some (.cells #[u298000] 26 (0,0)))∧Aside0 (Qb w0 w' g s0_0 x1001_1 x1002_1)∧Aside0 (Qg w w' g none)∧Aside0 (Below w0.heap.size w0 w'))
  case atStart=>exact ⟨(0),(t295),(t296),(t292),(.slice Ao8 t292.length co8),(by first|rfl|(simp;done)|(simp [*];done)),H',⟨Nat.le_refl _⟩,⟨by (with_reducible repeat (first|apply Kd.R_alloc|apply Kd.R_drewN|apply Kd.R_drew));exact Kd.R_mono (Kd.R_far (p:=⟨gb297,0,none⟩) (Kd.R_types HO294.out BK297.out (by decide)) (fun _ hk=>hk.2) (.slice Ao8 t292.length co8)) (fun _ hk=>trivial)⟩,⟨kF⟩,⟨by (with_reducible repeat (first|refine Qk ?_ _|refine Qj ?_|refine Qi ?_ _));refine Qcs (cs:= #[.slice none 0 0]) ?_ 0 _ rfl;(with_reducible repeat (first|refine Qk ?_ _|refine Qj ?_|refine Qi ?_ _));exact BK297.out⟩,⟨(Qb.vI HI0)⟩,⟨(vK HK)⟩,⟨(Qb.vB HB)⟩⟩
  case round=>
   clear H'
   try clear c1
   try clear p2
   try clear c9
   try clear c10
   try clear hcz11_0
   try clear hfz11_0
   obtain ⟨x6_1,x1001_1,x1002_1,x298000_1,u298000,rfl,HA,HK1,HO_298000,BK291,BK297,HI0,HK,HB⟩:=hrel;cases gk with
   |zero=>exact absurd HA.out (by simp [Q0.l0])
   |succ k1=>
    have H:=HA.out;clear HA;simp only [Q0.l0] at H
    by_cases c12:x6_1<4
    ·
     rw [if_pos c12] at H;have c12b0:=decide_eq_true c12;clear c12
     (first|rw [c12b0] |(simp only [Qcu,Qef];rw [c12b0])|skip)
     obtain ⟨t298,A13,H⟩:=bs H;(try dsimp only at H)
     by_cases c14:t298=true
     ·
      subst c14;rw [if_pos rfl] at H;obtain ⟨t299,A15,H⟩:=bs H;(try dsimp only at H)
      by_cases c16:t299=true
      ·
       subst c16;rw [if_pos rfl] at H;have H':=Aside0.mk H;clear H;have hnb17:=NB297_291.out;have hnc17:=NB291_297.out;have hnb18:=NB297_0.out;have hnc18:=NB0_297.out;have hcz19_0:=bC BK297;have hfz19_0:=Qf BK297.out 0;obtain ⟨Ao20,co20,eo20⟩:=Kd.R_slice HO_298000.out;subst eo20;go_wp2_with (first|(go_at_call 183;(with_reducible refine (Qbb.calls k1 _ _ x298000_1 true _ (uE HO_298000) ?side2 A13.out).mono ?_);(case side2=>exact (Kd.R_reads' HO_298000.out).2.1);rintro e w21 ⟨rfl,hb⟩;replace HO_298000:=Aside0.mk (Kd.R_below (uR HO_298000) hb);replace BK291:=Aside0.mk (Qc (uK BK291) hb);replace BK297:=Aside0.mk (Qc (uK BK297) hb);replace HI0:=Aside0.mk (Qb.below (Qb.u HI0) hb);replace HK:=Aside0.mk (Qg.trans (vK HK) (Qg.of_below hb g none) (.inl rfl));replace HB:=Aside0.mk (Qa (uB HB) hb);(try clear hb);have hcz22_0:=bC BK297;have hfz22_0:=Qf BK297.out 0)|(go_at_call 285;(with_reducible refine (Qca.calls k1 _ _ x298000_1 true _ (uE HO_298000) ?side2 A15.out).mono ?_);(case side2=>exact (Kd.R_reads' HO_298000.out).2.1);rintro e w23 ⟨rfl,hb⟩;replace HO_298000:=Aside0.mk (Kd.R_below (uR HO_298000) hb);replace BK291:=Aside0.mk (Qc (uK BK291) hb);replace BK297:=Aside0.mk (Qc (uK BK297) hb);replace HI0:=Aside0.mk (Qb.below (Qb.u HI0) hb);replace HK:=Aside0.mk (Qg.trans (vK HK) (Qg.of_below hb g none) (.inl rfl));replace HB:=Aside0.mk (Qa (uB HB) hb);(try clear hb)))
       go_meet
       case rel=>exact ⟨_,(x1001_1),(x1002_1),(x298000_1),(.slice Ao20 x298000_1.length co20),H',⟨by have:=HK1.out;first|omega|exact Nat.le_refl _⟩,⟨uR HO_298000⟩,⟨uK BK291⟩,⟨uK BK297⟩,⟨Qb.u HI0⟩,⟨(vK HK)⟩,⟨uB HB⟩⟩
      ·
       replace c16:=Bool.eq_false_iff.mpr c16;subst c16;rw [if_neg (show ¬ (false=true) by decide)] at H;obtain ⟨⟨t300,t303,t304⟩,A24,H⟩:=bs H;(try dsimp only at H)
       have H':=Aside0.mk H;clear H;have hnb25:=NB297_291.out;have hnc25:=NB291_297.out;have hnb26:=NB297_0.out;have hnc26:=NB0_297.out;have hcz27_0:=bC BK297;have hfz27_0:=Qf BK297.out 0;obtain ⟨Ao28,co28,eo28⟩:=Kd.R_slice HO_298000.out;subst eo28;go_wp2_with (first|(go_at_call 183;(with_reducible refine (Qbb.calls k1 _ _ x298000_1 true _ (uE HO_298000) ?side2 A13.out).mono ?_);(case side2=>exact (Kd.R_reads' HO_298000.out).2.1);rintro e w29 ⟨rfl,hb⟩;replace HO_298000:=Aside0.mk (Kd.R_below (uR HO_298000) hb);replace BK291:=Aside0.mk (Qc (uK BK291) hb);replace BK297:=Aside0.mk (Qc (uK BK297) hb);replace HI0:=Aside0.mk (Qb.below (Qb.u HI0) hb);replace HK:=Aside0.mk (Qg.trans (vK HK) (Qg.of_below hb g none) (.inl rfl));replace HB:=Aside0.mk (Qa (uB HB) hb);(try clear hb);have hcz30_0:=bC BK297;have hfz30_0:=Qf BK297.out 0)|(go_at_call 285;(with_reducible refine (Qca.calls k1 _ _ x298000_1 false _ (uE HO_298000) ?side2 A15.out).mono ?_);(case side2=>exact (Kd.R_reads' HO_298000.out).2.1);rintro e w31 ⟨rfl,hb⟩;replace HO_298000:=Aside0.mk (Kd.R_below (uR HO_298000) hb);replace BK291:=Aside0.mk (Qc (uK BK291) hb);replace BK297:=Aside0.mk (Qc (uK BK297) hb);replace HI0:=Aside0.mk (Qb.below (Qb.u HI0) hb);replace HK:=Aside0.mk (Qg.trans (vK HK) (Qg.of_below hb g none) (.inl rfl));replace HB:=Aside0.mk (Qa (uB HB) hb);(try clear hb))|(refine gA (some 27) Tryz.func286 #[.pointer (some ⟨g,0,none⟩), .int .i64 a1] ?_;(with_reducible refine (Qr.calls k1 g s0_0 x1001_1 x1002_1 a1 t300 t303 t304 w0 _ (Qb.u HI0) (uB HB) A24.out).mono ?_);rintro e w32 ⟨v301,rfl,ho0,hi,hb,hk⟩;refine ⟨_,rfl,?_⟩;replace BK291:=Aside0.mk (Qg.blk hk (g':=gb291) (o:= .cells #[.slice none 0 0] 26 (0,0)) (uK BK291) NB291_0.out (by simp));replace BK297:=Aside0.mk (Qg.blk hk (g':=gb297) (o:= .cells #[.slice Ao28 x298000_1.length co28] 26 (0,0)) (uK BK297) NB297_0.out (by simp));have HO302:=Aside0.mk (Kd.R_lower (Kd.R_new' ho0 (Kd.R_lt (uR HO_298000))) (Qb3 (w:=w) (g:=g) (row:=none) (vK HK)));replace HO_298000:=Aside0.mk (Kd.R_mono (Kd.R_told (Kd.R_oldK (Qb.apart (show Qb w0 _ g s0_0 x1001_1 x1002_1 from Qb.u HI0) (uR HO_298000) (by decide)) hk) (Kd.R_base ho0)) (fun _ h_=>h_.1));replace HK:=Aside0.mk (Qg.trans (vK HK) hk (.inl rfl));replace HB:=Aside0.mk (hb);replace HI0:=Aside0.mk (hi);(try clear hb hk hi ho0);obtain ⟨Ao33,co33,eo33⟩:=Kd.R_slice HO302.out;subst eo33;have hcz34_0:=bC BK297;have hfz34_0:=Qf BK297.out 0));go_roundg k1
       case measure=>have:=HK1.out;omega
       case rel=>exact ⟨(wrap64 (x6_1+1)),(t303),(t304),(t300),(.slice Ao33 t300.length co33),(by first|rfl|(simp;done)|(simp [*];done)),H',⟨by have:=HK1.out;omega⟩,⟨by (with_reducible repeat (first|apply Kd.R_alloc|apply Kd.R_drewN|apply Kd.R_drew));exact Kd.R_mono (Kd.R_far (p:=⟨gb297,0,none⟩) (Kd.R_types HO302.out BK297.out (by decide)) (fun _ hk=>hk.2) (.slice Ao33 t300.length co33)) (fun _ hk=>trivial)⟩,⟨kF⟩,⟨by (with_reducible repeat (first|refine Qk ?_ _|refine Qj ?_|refine Qi ?_ _));refine Qcs (cs:= #[.slice Ao28 x298000_1.length co28]) ?_ 0 _ rfl;(with_reducible repeat (first|refine Qk ?_ _|refine Qj ?_|refine Qi ?_ _));exact BK297.out⟩,⟨(Qb.vI HI0)⟩,⟨(vK HK)⟩,⟨(Qb.vB HB)⟩⟩
     ·
      replace c14:=Bool.eq_false_iff.mpr c14;subst c14;rw [if_neg (show ¬ (false=true) by decide)] at H;have H':=Aside0.mk H;clear H;have hnb35:=NB297_291.out;have hnc35:=NB291_297.out;have hnb36:=NB297_0.out;have hnc36:=NB0_297.out;have hcz37_0:=bC BK297;have hfz37_0:=Qf BK297.out 0;obtain ⟨Ao38,co38,eo38⟩:=Kd.R_slice HO_298000.out;subst eo38;go_wp2_with (first|(go_at_call 183;(with_reducible refine (Qbb.calls k1 _ _ x298000_1 false _ (uE HO_298000) ?side2 A13.out).mono ?_);(case side2=>exact (Kd.R_reads' HO_298000.out).2.1);rintro e w39 ⟨rfl,hb⟩;replace HO_298000:=Aside0.mk (Kd.R_below (uR HO_298000) hb);replace BK291:=Aside0.mk (Qc (uK BK291) hb);replace BK297:=Aside0.mk (Qc (uK BK297) hb);replace HI0:=Aside0.mk (Qb.below (Qb.u HI0) hb);replace HK:=Aside0.mk (Qg.trans (vK HK) (Qg.of_below hb g none) (.inl rfl));replace HB:=Aside0.mk (Qa (uB HB) hb);(try clear hb)))
      go_meet
      case rel=>exact ⟨_,(x1001_1),(x1002_1),(x298000_1),(.slice Ao38 x298000_1.length co38),H',⟨by have:=HK1.out;first|omega|exact Nat.le_refl _⟩,⟨uR HO_298000⟩,⟨uK BK291⟩,⟨uK BK297⟩,⟨Qb.u HI0⟩,⟨(vK HK)⟩,⟨uB HB⟩⟩
    ·
     rw [if_neg c12] at H;have c12b0:=decide_eq_false c12;clear c12
     (first|rw [c12b0] |(simp only [Qcu,Qef];rw [c12b0])|skip)
     have H':=Aside0.mk H;clear H;go_wp2
     go_meet
     case rel=>exact ⟨_,(x1001_1),(x1002_1),(x298000_1),(u298000),H',⟨by have:=HK1.out;first|omega|exact Nat.le_refl _⟩,⟨uR HO_298000⟩,⟨uK BK291⟩,⟨uK BK297⟩,⟨Qb.u HI0⟩,⟨(vK HK)⟩,⟨uB HB⟩⟩
 case rest=>
  clear HC4
  try clear c1
  try clear c2
  try clear p2
  try clear c3
  try clear p6
  try clear c9
  try clear c10
  try clear c12
  try clear c12b0
  try clear c14
  try clear c16
  try clear c17
  try clear c18
  try clear c25
  try clear c26
  try clear c28
  try clear c35
  try clear c36
  try clear hcz11_0
  try clear hcz19_0
  try clear hcz22_0
  try clear hcz27_0
  try clear hcz30_0
  try clear hcz34_0
  try clear hcz37_0
  try clear hfz11_0
  try clear hfz19_0
  try clear hfz22_0
  try clear hfz27_0
  try clear hfz30_0
  try clear hfz34_0
  try clear hfz37_0
  try clear p2
  obtain ⟨kq,x1001_3,x1002_3,x298000_3,u298000,HA,HJ3,HO_298000,BK291,BK297,HI0,HK,HB⟩:=hcut;cases kq with
  |zero=>exact absurd HA.out (by simp [Q0.j1])
  |succ kj3=>
   have H:=HA.out;clear HA;simp only [Q0.j1] at H;obtain ⟨⟨t305,t306,t307⟩,A40,H⟩:=bs H;(try dsimp only at H)
   by_cases c41:t305=true
   ·
    subst c41;rw [if_pos rfl] at H;obtain ⟨⟨t308,t309,t310⟩,A42,H⟩:=bs H;(try dsimp only at H)
    obtain ⟨⟨t311,t314⟩,A43,H⟩:=bs H;(try dsimp only at H)
    simp only [Option.some.injEq,Prod.mk.injEq] at H;obtain ⟨rfl,rfl,rfl⟩:=H;go_wp2_with (first|(refine gA (some 29) Tryz.func161 #[.pointer (some ⟨g,0,none⟩), .int .i64 4] ?_;(with_reducible refine (Qcv.calls g s0_0 x1001_3 x1002_3 4 true t306 t307 w0 _ (Qb.u HI0) (uB HB) A40.out).mono ?_);rintro e w44 ⟨rfl,hi,hb,hk⟩;refine ⟨_,rfl,?_⟩;replace HO_298000:=Aside0.mk (Kd.R_mono (Kd.R_keep (Qb.apart (show Qb w0 _ g s0_0 x1001_3 x1002_3 from Qb.u HI0) (uR HO_298000) (by decide)) hk (fun _ h=>h.2)) (fun _ h=>h.1));replace BK291:=Aside0.mk (Qg.blk hk (g':=gb291) (o:= .cells #[.slice none 0 0] 26 (0,0)) (uK BK291) NB291_0.out (by simp));replace BK297:=Aside0.mk (Qg.blk hk (g':=gb297) (o:= .cells #[u298000] 26 (0,0)) (uK BK297) NB297_0.out (by simp));replace HK:=Aside0.mk (Qg.trans (vK HK) hk (.inl rfl));replace HB:=Aside0.mk (hb);replace HI0:=Aside0.mk (hi);(try clear hb hk hi))|(refine gA (some 32) Tryz.func162 #[.pointer (some ⟨g,0,none⟩), .int .i64 3] ?_;(with_reducible refine (Qz.calls g s0_0 t306 t307 3 t308 t309 t310 w0 _ (Qb.u HI0) (uB HB) A42.out).mono ?_);rintro e w45 ⟨rfl,hi,hb,hk⟩;refine ⟨_,rfl,?_⟩;replace HO_298000:=Aside0.mk (Kd.R_mono (Kd.R_keep (Qb.apart (show Qb w0 _ g s0_0 t306 t307 from Qb.u HI0) (uR HO_298000) (by decide)) hk (fun _ h=>h.2)) (fun _ h=>h.1));replace BK291:=Aside0.mk (Qg.blk hk (g':=gb291) (o:= .cells #[.slice none 0 0] 26 (0,0)) (uK BK291) NB291_0.out (by simp));replace BK297:=Aside0.mk (Qg.blk hk (g':=gb297) (o:= .cells #[u298000] 26 (0,0)) (uK BK297) NB297_0.out (by simp));replace HK:=Aside0.mk (Qg.trans (vK HK) hk (.inl rfl));replace HB:=Aside0.mk (hb);replace HI0:=Aside0.mk (hi);(try clear hb hk hi))|(refine gA (some 34) Tryz.func268 #[.int .i64 (wrap64 (1+t308))] ?_;(with_reducible refine (Qx.calls kj3 (wrap64 (1+t308)) t311 t314 _ A43.out).mono ?_);rintro e w46 ⟨v312,rfl,ho0,hb⟩;refine ⟨_,rfl,?_⟩;have HO313:=Aside0.mk (Kd.R_lower (Kd.R_new' ho0 (Kd.R_lt (uR HO_298000))) (Qb3 (w:=w) (g:=g) (row:=none) (vK HK)));replace HO_298000:=Aside0.mk (Kd.R_elder' (uR HO_298000) (Kd.R_base ho0) hb);replace BK291:=Aside0.mk (Qc (uK BK291) hb);replace BK297:=Aside0.mk (Qc (uK BK297) hb);replace HI0:=Aside0.mk (Qb.below (Qb.u HI0) hb);replace HK:=Aside0.mk (Qg.trans (vK HK) (Qg.of_below hb g none) (.inl rfl));replace HB:=Aside0.mk (Qa (uB HB) hb);(try clear hb ho0))|(refine bE (N:=7) (cs:= #[.slice none 0 0]) (t:=26) ?_;intro gb315 hg w47 hbox hb;replace HO_298000:=Aside0.mk (Kd.R_below (uR HO_298000) hb);replace HO313:=Aside0.mk (Kd.R_below (uR HO313) hb);replace HB:=Aside0.mk (Qa (uB HB) hb);have BK315:=Aside0.mk (hbox);have GW315:=Aside0.mk ((by rw [hg];exact (Qb3 (w:=w) (g:=g) (row:=none) (vK HK)):w.heap.size≤gb315));have GE315:=Aside0.mk ((Nat.le_trans HW0.out (by rw [hg];exact (Qb3 (w:=w) (g:=g) (row:=none) (vK HK)):w.heap.size≤gb315):w0.heap.size≤gb315));replace HK:=Aside0.mk (Qg.trans (vK HK) (Qg.of_below hb g none) (.inl rfl));have NB291_315:=Aside0.mk ((nL hg (Qcc (uK BK291))));have NB315_291:=Aside0.mk ((nG hg (Qcc (uK BK291))));replace BK291:=Aside0.mk (Qc (uK BK291) hb);have NB297_315:=Aside0.mk ((nL hg (Qcc (uK BK297))));have NB315_297:=Aside0.mk ((nG hg (Qcc (uK BK297))));replace BK297:=Aside0.mk (Qc (uK BK297) hb);have NB0_315:=Aside0.mk ((nL hg (Qb.lt (Qb.u HI0))));have NB315_0:=Aside0.mk ((nG hg (Qb.lt (Qb.u HI0))));replace HI0:=Aside0.mk (Qb.below (Qb.u HI0) hb);clear hb hbox hg;obtain ⟨Ao48,co48,eo48⟩:=Kd.R_slice HO313.out;subst eo48;have hnb49:=NB315_291.out;have hnc49:=NB291_315.out;have hnb50:=NB315_297.out;have hnc50:=NB297_315.out;have hnb51:=NB315_0.out;have hnc51:=NB0_315.out;have hcz52_0:=bC BK315;have hfz52_0:=Qf BK315.out 0;have hnb53:=NB291_297.out;have hnc53:=NB297_291.out;have hnb54:=NB291_0.out;have hnc54:=NB0_291.out;have hcz55_0:=bC BK291;have hfz55_0:=Qf BK291.out 0));refine bodyPost_ret (results_cell_row rfl _ _ gb291 26 #[.slice Ao48 t311.length co48] (0,0) _ rfl (by (with_reducible repeat (first|refine Qk ?_ _|refine Qj ?_|refine Qi ?_ _));refine Qcs (cs:= #[.slice none 0 0]) ?_ 0 _ rfl;(with_reducible repeat (first|refine Qk ?_ _|refine Qj ?_|refine Qi ?_ _));refine Qd8 ?_ NB291_315.out _;(with_reducible repeat (first|refine Qk ?_ _|refine Qj ?_|refine Qi ?_ _));exact BK291.out) Tryz.underlying26 rfl (by kernel_rfl)) rfl ?_;exact ⟨_,by first|rfl|(simp [Qd,Qe] <;>rfl)|(simp [*,Qd,Qe] <;>rfl),by (with_reducible repeat (first|apply Kd.R_alloc|apply Kd.R_drewN|apply Kd.R_drew));exact Kd.R_mono (Kd.R_far (p:=⟨gb291,0,none⟩) (Kd.R_far (p:=⟨gb315,0,none⟩) (Kd.R_types (Kd.R_types HO313.out BK315.out (by decide)) BK291.out (by decide)) (fun _ hk=>hk.1.2) (.slice Ao48 t311.length co48)) (fun _ hk=>hk.2) (.slice Ao48 t311.length co48)) (fun _ hk=>trivial),(Qb.vI HI0),(Qb.vB HB),(vK HK)⟩
   ·
    replace c41:=Bool.eq_false_iff.mpr c41;subst c41;rw [if_neg (show ¬ (false=true) by decide)] at H;simp only [Option.some.injEq,Prod.mk.injEq] at H;obtain ⟨rfl,rfl,rfl⟩:=H;go_wp2_with (first|(refine gA (some 29) Tryz.func161 #[.pointer (some ⟨g,0,none⟩), .int .i64 4] ?_;(with_reducible refine (Qcv.calls g s0_0 x1001_3 x1002_3 4 false t306 t307 w0 _ (Qb.u HI0) (uB HB) A40.out).mono ?_);rintro e w56 ⟨rfl,hi,hb,hk⟩;refine ⟨_,rfl,?_⟩;replace HO_298000:=Aside0.mk (Kd.R_mono (Kd.R_keep (Qb.apart (show Qb w0 _ g s0_0 x1001_3 x1002_3 from Qb.u HI0) (uR HO_298000) (by decide)) hk (fun _ h=>h.2)) (fun _ h=>h.1));replace BK291:=Aside0.mk (Qg.blk hk (g':=gb291) (o:= .cells #[.slice none 0 0] 26 (0,0)) (uK BK291) NB291_0.out (by simp));replace BK297:=Aside0.mk (Qg.blk hk (g':=gb297) (o:= .cells #[u298000] 26 (0,0)) (uK BK297) NB297_0.out (by simp));replace HK:=Aside0.mk (Qg.trans (vK HK) hk (.inl rfl));replace HB:=Aside0.mk (hb);replace HI0:=Aside0.mk (hi);(try clear hb hk hi);have hnb57:=NB297_291.out;have hnc57:=NB291_297.out;have hnb58:=NB297_0.out;have hnc58:=NB0_297.out;have hcz59_0:=bC BK297;have hfz59_0:=Qf BK297.out 0;obtain ⟨Ao60,co60,eo60⟩:=Kd.R_slice HO_298000.out;subst eo60;have hnb61:=NB291_0.out;have hnc61:=NB0_291.out;have hcz62_0:=bC BK291;have hfz62_0:=Qf BK291.out 0));refine bodyPost_ret (results_cell_row rfl _ _ gb291 26 #[.slice Ao60 x298000_3.length co60] (0,0) _ rfl (by (with_reducible repeat (first|refine Qk ?_ _|refine Qj ?_|refine Qi ?_ _));refine Qcs (cs:= #[.slice none 0 0]) ?_ 0 _ rfl;(with_reducible repeat (first|refine Qk ?_ _|refine Qj ?_|refine Qi ?_ _));exact BK291.out) Tryz.underlying26 rfl (by kernel_rfl)) rfl ?_;exact ⟨_,by first|rfl|(simp [Qd,Qe] <;>rfl)|(simp [*,Qd,Qe] <;>rfl),by (with_reducible repeat (first|apply Kd.R_alloc|apply Kd.R_drewN|apply Kd.R_drew));exact Kd.R_mono (Kd.R_far (p:=⟨gb291,0,none⟩) (Kd.R_types HO_298000.out BK291.out (by decide)) (fun _ hk=>hk.2) (.slice Ao60 x298000_3.length co60)) (fun _ hk=>trivial),(Qb.vI HI0),(Qb.vB HB),(vK HK)⟩
def Qdo.f (l0_0 : List Int) (a1 : Int) : Option (Bool) := (Qde.f a1 0 (wrap64 ((shl .i64 1 (l0_0.length : Int)) - 1))).bind fun t317 => (some t317)
set_option maxHeartbeats 8000000 in
set_option maxRecDepth 100000 in
theorem Qdo.calls (A0_0 : Option Addr) (c0_0 : Nat) (l0_0 : List Int) (a1 : Int) (r : Bool) (w : World) (hr0_0 : Kd.C (Kd.int .i64) w A0_0 l0_0.length l0_0) (hc0_0 : l0_0.length ≤ c0_0) (h : Qdo.f l0_0 a1 = some r) :
 Calls Tryz.prog 199 #[.agg #[.slice A0_0 l0_0.length c0_0], .int .i64 a1] w fun e w'=>e= .returned (.bool r)∧Below w.heap.size w w':=by
 have hu26:=Tryz.underlying26;have HR0_0:=Aside0.mk hr0_0;have HC0_0:=Aside0.mk hc0_0;clear hr0_0 hc0_0;have HB:=Aside0.mk (Below.refl w.heap.size w);have H:((Qde.f a1 0 (wrap64 ((shl .i64 1 (l0_0.length:Int)) - 1))).bind fun t317=>(some t317))=some r:=h;clear h;obtain ⟨ji3,hji3⟩: ∃ j_:Int,(shl .i64 1 (l0_0.length:Int))=j_:=⟨_,rfl⟩
 replace H:((Qde.f a1 0 (wrap64 ((ji3) - 1))).bind fun t317=>(some t317))=some r:=by first|(rw [hji3] at H;exact H)|(simp only [hji3] at H ⊢;exact H)
 have hji3_:(IntKind.i64.wrap (1*2 ^ min (l0_0.length:Int).toNat 64))=ji3:=hji3;have hji3z:(l0_0.length:Int)≤64→(IntKind.i64.wrap (1*2 ^ (l0_0.length:Int).toNat))=ji3:=Qd1 hji3;have hji3p:(IntKind.i64.wrap (1*2 ^ min l0_0.length 64))=ji3:=hji3_;have hji3q:(l0_0.length:Int)≤64→(IntKind.i64.wrap (1*2 ^ l0_0.length))=ji3:=hji3z;have hji3r:(IntKind.i64.wrap (2 ^ min l0_0.length 64))=ji3:=by have h_:=hji3p;rw [Int.one_mul] at h_;exact h_
 have hji3s:(l0_0.length:Int)≤64→(IntKind.i64.wrap (2 ^ l0_0.length))=ji3:=fun hle_=>by have h_:=hji3q hle_;rw [Int.one_mul] at h_;exact h_
 have hji3u:(IntKind.i64.wrap (2 ^ min (l0_0.length:Int).toNat 64))=ji3:=by have h_:=hji3_;rw [Int.one_mul] at h_;exact h_
 have hji3v:(l0_0.length:Int)≤64→(IntKind.i64.wrap (2 ^ (l0_0.length:Int).toNat))=ji3:=fun hle_=>by have h_:=hji3z hle_;rw [Int.one_mul] at h_;exact h_
 have hji3y:(wrap64 (1*2 ^ min (l0_0.length:Int).toNat 64))=ji3:=(Qcu _).symm.trans hji3_;have hji3x:(l0_0.length:Int)≤64→(wrap64 (1*2 ^ (l0_0.length:Int).toNat))=ji3:=fun h_=>(Qcu _).symm.trans (hji3z h_)
 obtain ⟨t317,A4,H⟩:=bs H;(try dsimp only at H)
 obtain rfl:=Option.some.inj H;go_enter Tryz.func199,Tryz.ntmps199;go_wp2_with (first|(refine bE (N:=2) (cs:= #[.slice A0_0 l0_0.length c0_0]) (t:=26) ?_;intro gb316 hg w5 hbox hb;have BK316:=Aside0.mk (hbox);have GW316:=Aside0.mk ((gV hg (uB HB)));have GE316:=GW316;replace HB:=Aside0.mk (Qa (uB HB) hb);clear hb hbox hg;have hcz6_0:=bC BK316;have hfz6_0:=Qf BK316.out 0)|((with_reducible refine Qdp (f:=192) rfl ?_);refine Qeu (some 11) rfl rfl Tryz.func192 (by kernel_rfl) rfl #[.int .i64 a1, .int .i64 0, .int .i64 (wrap64 ((ji3) - 1))] rfl (by (try simp only [List.map_toArray,List.map_cons,List.map_nil]);first|done|(simp only [hji3];rfl)|rfl|(simp only [List.length_drop,List.length_take];rfl)) ?_;(with_reducible refine (Qde.calls a1 0 (wrap64 ((ji3) - 1)) t317 _ A4.out).mono ?_);rintro e w' ⟨rfl,⟨nd,rfl⟩⟩;refine ⟨_,rfl,?_⟩))
 go_ret
 exact ⟨by first|rfl|(simp [Qd,Qe] <;>rfl)|(simp only [←hji3];first|rfl|(simp [Qd,Qe] <;>rfl))|(simp [*,Qd,Qe] <;>rfl),uB HB⟩
def Qcd.l0 : Nat → Int → Int → List Int → Int → Int → Option (Int)
 |0,_,_,_,_,_=>none
 |k+1,x1,x5,x10,x11,x12=>if x12<x11 then (if 0≤x12 then (if x12<(x10.length:Int) then ((Qcq.f x1 x12).bind fun t320=>(if t320=true then (Qcd.l0 k x1 (Go.bits .andNot .i64 x5 (rd x10 x12)) x10 x11 (wrap64 (x12+1))) else (Qcd.l0 k x1 x5 x10 x11 (wrap64 (x12+1))))) else (none)) else (none)) else (some x5)
def Qcd.f (k : Nat) (l0_0 : List Int) (a1 : Int) : Option (Int) := Qcd.l0 k a1 a1 l0_0 (l0_0.length : Int) 0
theorem Qcd.mono_l : ∀ k, (∀ y0 y1 y2 y3 y4, LeO (Qcd.l0 k y0 y1 y2 y3 y4) (Qcd.l0 (k + 1) y0 y1 y2 y3 y4))
 |0=>fun _ _ _ _ _ r h=>by simp [Qcd.l0] at h
 |k+1=>by
  have ih0:=Qcd.mono_l k
  ·
   intro y0 y1 y2 y3 y4;unfold Qcd.l0
   repeat' first
   |(with_reducible exact ih0 _ _ _ _ _)
   |(with_reducible exact LeO.refl _)
   |(with_reducible exact LeO.none _)
   |(with_reducible refine LeO.ite ?_ ?_)
   |(with_reducible refine LeO.bind ?_ (fun _=> ?_))
   |exact ih0 _ _ _ _ _
   |exact LeO.none _
   |refine LeO.ite ?_ ?_
   |refine LeO.bind ?_ (fun _=> ?_)
theorem Qcd.mono : ∀ a0 a1 k, LeO (Qcd.f k a0 a1) (Qcd.f (k + 1) a0 a1) := by
 intro a0 a1 k;have ih0:=Qcd.mono_l k;unfold Qcd.f
 repeat' (with_reducible first|apply ih0|exact LeO.refl _|exact LeO.none _|refine LeO.ite ?_ ?_|refine LeO.bind ?_ (fun _=> ?_))
set_option maxHeartbeats 8000000 in
set_option maxRecDepth 100000 in
theorem Qcd.calls (k : Nat) (A0_0 : Option Addr) (c0_0 : Nat) (l0_0 : List Int) (a1 : Int) (r : Int) (w : World) (hr0_0 : Kd.C (Kd.int .i64) w A0_0 l0_0.length l0_0) (hc0_0 : l0_0.length ≤ c0_0) (h : Qcd.f k l0_0 a1 = some r) :
 Calls Tryz.prog 292 #[.agg #[.slice A0_0 l0_0.length c0_0], .int .i64 a1] w fun e w'=>e= .returned (.int .i64 r)∧Below w.heap.size w w':=by
 have hu26:=Tryz.underlying26;have HR0_0:=Aside0.mk hr0_0;have HC0_0:=Aside0.mk hc0_0;clear hr0_0 hc0_0;have HB:=Aside0.mk (Below.refl w.heap.size w);have H:(Qcd.l0 k a1 a1 l0_0 (l0_0.length:Int) 0)=some r:=h;clear h;have H':=Aside0.mk H;clear H;go_enter Tryz.func292,Tryz.ntmps292;go_wp2_with (first|(refine bE (N:=2) (cs:= #[.slice A0_0 l0_0.length c0_0]) (t:=26) ?_;intro gb318 hg w3 hbox hb;have BK318:=Aside0.mk (hbox);have GW318:=Aside0.mk ((gV hg (uB HB)));have GE318:=GW318;replace HB:=Aside0.mk (Qa (uB HB) hb);clear hb hbox hg;have hcz4_0:=bC BK318;have hfz4_0:=Qf BK318.out 0))
 go_loopg [5,12] k (fun kq v5 v12 w'=> ∃ (x5_1:Int) (x12_1:Int),v5= .int .i64 x5_1∧v12= .int .i64 x12_1∧Aside0 (Qcd.l0 kq a1 x5_1 l0_0 (l0_0.length:Int) x12_1=some r)∧Aside0 (kq≤k)∧Aside0 (w'.heap[gb318]? =some (.cells #[(.slice A0_0 l0_0.length c0_0)] 26 (0,0)))∧Aside0 (Below w.heap.size w w'))
 case atStart=>exact ⟨(a1),(0),(by first|rfl|(simp;done)|(simp [*];done)),(by first|rfl|(simp;done)|(simp [*];done)),H',⟨Nat.le_refl _⟩,⟨uK BK318⟩,⟨uB HB⟩⟩
 case round=>
  clear H'
  try clear c2
  try clear p2
  try clear hcz4_0
  try clear hfz4_0
  obtain ⟨x5_1,x12_1,rfl,rfl,HA,HK1,BK318,HB⟩:=hrel;cases gk with
  |zero=>exact absurd HA.out (by simp [Qcd.l0])
  |succ k1=>
   have H:=HA.out;clear HA;simp only [Qcd.l0] at H
   by_cases c5:x12_1<(l0_0.length:Int)
   ·
    rw [if_pos c5] at H;have c5b0:=decide_eq_true c5;clear c5
    by_cases c6:0≤x12_1
    ·
     rw [if_pos c6] at H;have c6b0:=decide_eq_true c6;clear c6
     by_cases c7:x12_1<(l0_0.length:Int)
     ·
      rw [if_pos c7] at H;have c7b0:=decide_eq_true c7;clear c7;obtain ⟨t320,A8,H⟩:=bs H;(try dsimp only at H)
      by_cases c9:t320=true
      ·
       subst c9;rw [if_pos rfl] at H;have H':=Aside0.mk H;clear H;have p319:0≤(x12_1:Int):=of_decide_eq_true (by first|(with_reducible assumption)|assumption);have q319:x12_1<(l0_0.length:Int):=of_decide_eq_true (by first|(with_reducible assumption)|assumption);obtain ⟨ad319,e319,hx319_0⟩:=Kd.at_int HR0_0.out x12_1 p319 q319;cases e319;replace hx319_0:=(HB.out.cell (World.block_lt_of_cell? w _ hx319_0)).trans hx319_0;replace p319:=eq_true p319;replace q319:=eq_true q319;go_wp2_with (first|(refine gA (some 19) Tryz.func253 #[.int .i64 a1, .int .i64 x12_1] ?_;(with_reducible refine (Qcq.calls a1 x12_1 true _ A8.out).mono ?_);rintro e w' ⟨rfl,⟨nd,rfl⟩⟩;refine ⟨_,rfl,?_⟩));go_roundg k1
       case measure=>have:=HK1.out;omega
       case rel=>exact ⟨(Go.bits .andNot .i64 x5_1 (rd l0_0 x12_1)),(wrap64 (x12_1+1)),(by first|rfl|(simp;done)|(simp [*];done)),(by first|rfl|(simp;done)|(simp [*];done)),H',⟨by have:=HK1.out;omega⟩,⟨uK BK318⟩,⟨uB HB⟩⟩
      ·
       replace c9:=Bool.eq_false_iff.mpr c9;subst c9;rw [if_neg (show ¬ (false=true) by decide)] at H;have H':=Aside0.mk H;clear H;have p319:0≤(x12_1:Int):=of_decide_eq_true (by first|(with_reducible assumption)|assumption);have q319:x12_1<(l0_0.length:Int):=of_decide_eq_true (by first|(with_reducible assumption)|assumption);obtain ⟨ad319,e319,hx319_0⟩:=Kd.at_int HR0_0.out x12_1 p319 q319;cases e319;replace hx319_0:=(HB.out.cell (World.block_lt_of_cell? w _ hx319_0)).trans hx319_0;replace p319:=eq_true p319;replace q319:=eq_true q319;go_wp2_with (first|(refine gA (some 19) Tryz.func253 #[.int .i64 a1, .int .i64 x12_1] ?_;(with_reducible refine (Qcq.calls a1 x12_1 false _ A8.out).mono ?_);rintro e w' ⟨rfl,⟨nd,rfl⟩⟩;refine ⟨_,rfl,?_⟩));go_roundg k1
       case measure=>have:=HK1.out;omega
       case rel=>exact ⟨(x5_1),(wrap64 (x12_1+1)),(by first|rfl|(simp;done)|(simp [*];done)),(by first|rfl|(simp;done)|(simp [*];done)),H',⟨by have:=HK1.out;omega⟩,⟨uK BK318⟩,⟨uB HB⟩⟩
     ·
      rw [if_neg c7] at H;exact absurd H (by simp)
    ·
     rw [if_neg c6] at H;exact absurd H (by simp)
   ·
    rw [if_neg c5] at H;have c5b0:=decide_eq_false c5;clear c5;obtain rfl:=Option.some.inj H;go_wp2
    go_ret
    exact ⟨by first|rfl|(simp [Qd,Qe] <;>rfl)|(simp [*,Qd,Qe] <;>rfl),uB HB⟩
end Go.Proofs.YtkgngggppcmpfaaGreat.L
end
section
namespace Go.Proofs.YtkgngggppcmpfaaGreat.L
open Go.RowKit Go.Proofs.YtkgngggppcmpfaaGreatW.PrintWords Go.Proofs.YtkgngggppcmpfaaGreatW.PrintLast Go.Proofs.YtkgngggppcmpfaaGreatW.PrintMore
attribute [local go_sem] Qt Qv Q2 Q3 Qm Qn Qu Qw
set_option linter.unusedVariables false
set_option linter.unusedSimpArgs false
def Qe7.f (a0 : Int) (a1 : Int) : Option (Int) := if a0 < a1 then (some a0) else (some a1)
set_option maxHeartbeats 8000000 in
set_option maxRecDepth 100000 in
theorem Qe7.calls (a0 : Int) (a1 : Int) (r : Int) (w : World) (h : Qe7.f a0 a1 = some r) :
 Calls Tryz.prog 339 #[.int .i64 a0, .int .i64 a1] w fun e w'=>e= .returned (.int .i64 r)∧Drawn0 w w':=by
 have H:(if a0<a1 then (some a0) else (some a1))=some r:=h;clear h
 by_cases c3:a0<a1
 ·
  rw [if_pos c3] at H;have c3b0:=decide_eq_true c3;clear c3;obtain rfl:=Option.some.inj H;go_enter Tryz.func339,Tryz.ntmps339;go_wp2
  go_ret
  exact ⟨by first|rfl|(simp;done)|(simp [*];done),by repeat (first|exact Drawn0.refl _|apply Drawn0.step)⟩
 ·
  rw [if_neg c3] at H;have c3b0:=decide_eq_false c3;clear c3;obtain rfl:=Option.some.inj H;go_enter Tryz.func339,Tryz.ntmps339;go_wp2
  go_ret
  exact ⟨by first|rfl|(simp;done)|(simp [*];done),by repeat (first|exact Drawn0.refl _|apply Drawn0.step)⟩
end Go.Proofs.YtkgngggppcmpfaaGreat.L
end
section
namespace Go.Proofs.YtkgngggppcmpfaaGreat.L
open Go.RowKit Go.Proofs.YtkgngggppcmpfaaGreatW.PrintWords Go.Proofs.YtkgngggppcmpfaaGreatW.PrintLast Go.Proofs.YtkgngggppcmpfaaGreatW.PrintMore Go.Proofs.YtkgngggppcmpfaaGreat.X
attribute [local go_sem] Qt Qv Q2 Q3 Qm Qn Qu Qw
set_option linter.unusedVariables false
set_option linter.unusedSimpArgs false
def Qck.f (s0_0 : List Int) (s0_1 : Int) (s0_2 : Int) (l1_0 : List Int) : Option (Int × Int × Int) := (Qe7.f (l1_0.length : Int) 12).bind fun t322 => ((Qz.f s0_0 s0_1 s0_2 256).bind fun bt323 => ((Qz.f s0_0 bt323.2.1 bt323.2.2 16).bind fun bt326 => (if 0 ≤ t322 then ((Qcv.f s0_0 bt326.2.1 bt326.2.2 12).bind fun bt329 => (if bt329.1 = true then ((Qdf.f s0_0 bt329.2.1 bt329.2.2 (([(-1), shl .i64 1 t322, 0, wrap64 ((shl .i64 1 t322) - 1), 4611686018427387904] : List Int))).bind fun bt335 => (some (bt335.1, bt335.2.1, bt335.2.2))) else (some (Go.bits .and .i64 (wrap64 (bt323.1 + (wrap64 (256 * bt326.1)))) (wrap64 ((shl .i64 1 t322) - 1)), bt329.2.1, bt329.2.2)))) else (none))))
def Qck.T5 : Bool × List (List Nat × List Nat) := (true, [([], []), ([], []), ([1], [1]), ([], []), ([3], [3]), ([4], [4]), ([2, 5], [2, 5]), ([0, 6], [0, 6]), ([7, 7, 0, 1, 2, 3, 4, 5, 6, 7], [7])])
def Qck.B5 : List Nat := [0, 0, 2, 0, 8, 24, 62, 127, 255]
theorem Qck.tab5 : rtab .any (Qf2 Tryz.f297 5) = Qck.T5 := by kernel_rfl
theorem Qck.bits5 : Qd9 Qck.T5.2 Qck.B5 = true := by kernel_rfl
set_option maxHeartbeats 8000000 in
set_option maxRecDepth 100000 in
theorem Qck.calls (g : Nat) (s0_0 : List Int) (s0_1 : Int) (s0_2 : Int) (A1_0 : Option Addr) (c1_0 : Nat) (l1_0 : List Int) (r1 : Int) (r2 : Int) (r3 : Int) (w0 w : World) (hI : Qb w0 w g s0_0 s0_1 s0_2) (hB : Below w0.heap.size w0 w) (hr1_0 : Kd.C (Kd.int .i64) w A1_0 l1_0.length l1_0) (hc1_0 : l1_0.length ≤ c1_0) (hf1_0 : ∀ ad, A1_0 = some ad → 0 < l1_0.length → ad.block ≠ g) (h : Qck.f s0_0 s0_1 s0_2 l1_0 = some (r1, r2, r3)) :
 Calls Tryz.prog 297 #[.pointer (some ⟨g,0,none⟩), .agg #[.slice A1_0 l1_0.length c1_0]] w fun e w'=>e= .returned (.int .i64 r1)∧Qb w0 w' g s0_0 r2 r3∧Below w0.heap.size w0 w'∧Qg w w' g none:=by
 have hu26:=Tryz.underlying26;have HR1_0:=Aside0.mk hr1_0;have HC1_0:=Aside0.mk hc1_0;clear hr1_0 hc1_0;have HI0:=Aside0.mk hI;have HK:=Aside0.mk (Qg.refl w g none);have HL:=Aside0.mk hB.size;clear hI;have HW0:=Aside0.mk hB.size;have HB:=Aside0.mk hB;clear hB;have H:((Qe7.f (l1_0.length:Int) 12).bind fun t322=>((Qz.f s0_0 s0_1 s0_2 256).bind fun bt323=>((Qz.f s0_0 bt323.2.1 bt323.2.2 16).bind fun bt326=>(if 0≤t322 then ((Qcv.f s0_0 bt326.2.1 bt326.2.2 12).bind fun bt329=>(if bt329.1=true then ((Qdf.f s0_0 bt329.2.1 bt329.2.2 (([(-1),shl .i64 1 t322,0,wrap64 ((shl .i64 1 t322) - 1),4611686018427387904] :List Int))).bind fun bt335=>(some (bt335.1,bt335.2.1,bt335.2.2))) else (some (Go.bits .and .i64 (wrap64 (bt323.1+(wrap64 (256*bt326.1)))) (wrap64 ((shl .i64 1 t322) - 1)),bt329.2.1,bt329.2.2)))) else (none)))))=some (r1,r2,r3):=h;clear h;obtain ⟨t322,A3,H⟩:=bs H;(try dsimp only at H)
 obtain ⟨⟨t323,t324,t325⟩,A4,H⟩:=bs H;(try dsimp only at H)
 obtain ⟨⟨t326,t327,t328⟩,A5,H⟩:=bs H;(try dsimp only at H)
 by_cases c6:0≤t322
 ·
  rw [if_pos c6] at H;have c6b0:=eq_true c6;have c6b1:=decide_eq_true c6;clear c6;obtain ⟨ji7,hji7⟩: ∃ j_:Int,(shl .i64 1 t322)=j_:=⟨_,rfl⟩
  replace H:((Qcv.f s0_0 t327 t328 12).bind fun bt329=>(if bt329.1=true then ((Qdf.f s0_0 bt329.2.1 bt329.2.2 (([(-1),ji7,0,wrap64 ((ji7) - 1),4611686018427387904] :List Int))).bind fun bt335=>(some (bt335.1,bt335.2.1,bt335.2.2))) else (some (Go.bits .and .i64 (wrap64 (t323+(wrap64 (256*t326)))) (wrap64 ((ji7) - 1)),bt329.2.1,bt329.2.2))))=some (r1,r2,r3):=by first|(rw [hji7] at H;exact H)|(simp only [hji7] at H ⊢;exact H)
  (try rw [hji7] at A3)
  (try rw [hji7] at A4)
  (try rw [hji7] at A5)
  have hji7_:(IntKind.i64.wrap (1*2 ^ min t322.toNat 64))=ji7:=hji7;have hji7z:t322≤64→(IntKind.i64.wrap (1*2 ^ t322.toNat))=ji7:=Qd1 hji7;have hji7u:(IntKind.i64.wrap (2 ^ min t322.toNat 64))=ji7:=by have h_:=hji7_;rw [Int.one_mul] at h_;exact h_
  have hji7v:t322≤64→(IntKind.i64.wrap (2 ^ t322.toNat))=ji7:=fun hle_=>by have h_:=hji7z hle_;rw [Int.one_mul] at h_;exact h_
  have hji7y:(wrap64 (1*2 ^ min t322.toNat 64))=ji7:=(Qcu _).symm.trans hji7_;have hji7x:t322≤64→(wrap64 (1*2 ^ t322.toNat))=ji7:=fun h_=>(Qcu _).symm.trans (hji7z h_)
  obtain ⟨⟨t329,t330,t331⟩,A8,H⟩:=bs H;(try dsimp only at H)
  by_cases c9:t329=true
  ·
   subst c9;rw [if_pos rfl] at H;have c10b0:=eq_true (of_decide_eq_true (by first|(with_reducible assumption)|assumption):0≤t322);have c11b0:=eq_true (of_decide_eq_true (by first|(with_reducible assumption)|assumption):0≤t322);obtain ⟨y332,hy332⟩: ∃ y_:List Int,y_=(([(-1),ji7,0,wrap64 ((ji7) - 1),4611686018427387904] :List Int)):=⟨_,rfl⟩
   replace H:((Qdf.f s0_0 t330 t331 y332).bind fun bt335=>(some (bt335.1,bt335.2.1,bt335.2.2)))=some (r1,r2,r3):=by first|(rw [hy332];with_reducible exact H)|(have H2_:=(Option.bind_some _ _).symm.trans H;rw [hy332];with_reducible exact H2_)|(have H2_:=(Option.bind_some _ _).symm.trans H;with_reducible exact H2_)|with_reducible exact H|(rw [hy332];exact H)|exact H
   have Ny332:=Aside0.mk hy332;clear hy332;obtain ⟨⟨t335,t336,t337⟩,A12,H⟩:=bs H;(try dsimp only at H)
   simp only [Option.some.injEq,Prod.mk.injEq] at H;obtain ⟨rfl,rfl,rfl⟩:=H;go_enter Tryz.func297,Tryz.ntmps297
   try go_wp2_with (first|(refine bE (N:=3) (cs:= #[.slice A1_0 l1_0.length c1_0]) (t:=26) ?_;intro gb321 hg w13 hbox hb;replace HB:=Aside0.mk (Qa (uB HB) hb);have BK321:=Aside0.mk (hbox);have GW321:=Aside0.mk ((gW hg (uP HK)));have GE321:=Aside0.mk ((Nat.le_trans HW0.out (gW hg (uP HK))));replace HK:=Aside0.mk (Qg.trans (uP HK) (Qg.of_below hb g none) (.inl rfl));have NB0_321:=Aside0.mk ((nL hg (Qb.lt (Qb.u HI0))));have NB321_0:=Aside0.mk ((nG hg (Qb.lt (Qb.u HI0))));replace HI0:=Aside0.mk (Qb.below (Qb.u HI0) hb);clear hb hbox hg;have hnb14:=NB321_0.out;have hnc14:=NB0_321.out;have hcz15_0:=bC BK321;have hfz15_0:=Qf BK321.out 0)|(refine gA (some 10) Tryz.func339 #[.int .i64 (l1_0.length:Int), .int .i64 12] ?_;(with_reducible refine (Qe7.calls (l1_0.length:Int) 12 t322 _ A3.out).mono ?_);rintro e w' ⟨rfl,⟨nd,rfl⟩⟩;refine ⟨_,rfl,?_⟩)|(refine gA (some 12) Tryz.func162 #[.pointer (some ⟨g,0,none⟩), .int .i64 256] ?_;(with_reducible refine (Qz.calls g s0_0 s0_1 s0_2 256 t323 t324 t325 w0 _ (Qb.u HI0) (uB HB) A4.out).mono ?_);rintro e w16 ⟨rfl,hi,hb,hk⟩;refine ⟨_,rfl,?_⟩;replace BK321:=Aside0.mk (Qg.blk hk (g':=gb321) (o:= .cells #[.slice A1_0 l1_0.length c1_0] 26 (0,0)) (uK BK321) NB321_0.out (by simp));replace HK:=Aside0.mk (Qg.trans (uP HK) hk (.inl rfl));replace HB:=Aside0.mk (hb);replace HI0:=Aside0.mk (hi);(try clear hb hk hi))|(refine gA (some 14) Tryz.func162 #[.pointer (some ⟨g,0,none⟩), .int .i64 16] ?_;(with_reducible refine (Qz.calls g s0_0 t324 t325 16 t326 t327 t328 w0 _ (Qb.u HI0) (uB HB) A5.out).mono ?_);rintro e w17 ⟨rfl,hi,hb,hk⟩;refine ⟨_,rfl,?_⟩;replace BK321:=Aside0.mk (Qg.blk hk (g':=gb321) (o:= .cells #[.slice A1_0 l1_0.length c1_0] 26 (0,0)) (uK BK321) NB321_0.out (by simp));replace HK:=Aside0.mk (Qg.trans (uP HK) hk (.inl rfl));replace HB:=Aside0.mk (hb);replace HI0:=Aside0.mk (hi);(try clear hb hk hi))|(refine gA (some 23) Tryz.func161 #[.pointer (some ⟨g,0,none⟩), .int .i64 12] ?_;(with_reducible refine (Qcv.calls g s0_0 t327 t328 12 true t330 t331 w0 _ (Qb.u HI0) (uB HB) A8.out).mono ?_);rintro e w18 ⟨rfl,hi,hb,hk⟩;refine ⟨_,rfl,?_⟩;replace BK321:=Aside0.mk (Qg.blk hk (g':=gb321) (o:= .cells #[.slice A1_0 l1_0.length c1_0] 26 (0,0)) (uK BK321) NB321_0.out (by simp));replace HK:=Aside0.mk (Qg.trans (uP HK) hk (.inl rfl));replace HB:=Aside0.mk (hb);replace HI0:=Aside0.mk (hi);(try clear hb hk hi)))
   replace BK321:=Aside0.mk (Qj BK321.out);replace HI0:=Aside0.mk (Qb.drew HI0.out);replace HK:=Aside0.mk (Qeo HK.out);replace HB:=Aside0.mk (Qy HB.out);refine sU (n:=9) (S:=fun w'=>True) (ds:= []) trivial (fun hHeld=> ?_);refine Qeg Qck.tab5 Qck.bits5 (fun HT_ HW_=> ?_);generalize w18.drew=w19 at BK321 HI0 HK HB hHeld ⊢;refine pU 0 24 ?_;refine pU 1 25 ?_;refine pU 2 26 ?_;refine pU 3 27 ?_;refine pU 4 28 ?_;refine pU 5 29 ?_;refine oU 6 (some 30) fun K hK=> ?_
   refine Kd.R_lit_step (Kd.int .i64) _ 3 ?hg (N:=30) ?hd (xs:=([(-1),ji7,0,wrap64 ((ji7) - 1),4611686018427387904] :List Int)) (inner:= [.int .i64 (-1), .int .i64 ji7, .int .i64 0, .int .i64 (wrap64 ((ji7) - 1)), .int .i64 4611686018427387904]) (ok:=fun _=>True) (okp:=fun _=>True) ?hr ?hp (fun _ hk=>hk) trivial (Below.refl _ _) (Nat.le_refl _) (by simp) ?_;(case hd=>rfl);(case hg=>rfl);(case hr=>first|(go_simp;done)|(go_simp;rfl));(case hp=>exact (Reps.one (show Kd.M (Kd.int .i64) _ _ _ (-1) [.int .i64 (-1)] from rfl) (Reps.one (show Kd.M (Kd.int .i64) _ _ _ ji7 [.int .i64 ji7] from rfl) (Reps.one (show Kd.M (Kd.int .i64) _ _ _ 0 [.int .i64 0] from rfl) (Reps.one (show Kd.M (Kd.int .i64) _ _ _ (wrap64 ((ji7) - 1)) [.int .i64 (wrap64 ((ji7) - 1))] from rfl) (Reps.one (show Kd.M (Kd.int .i64) _ _ _ 4611686018427387904 [.int .i64 4611686018427387904] from rfl) (Reps.none _ _)))))))
   intro v333 w20 ho21 hb hg_ hnew_;clear hg_ hnew_
   (first|rw [←Ny332.out] at ho21|(simp only [Int.reduceToNat] at ho21;rw [←Ny332.out] at ho21))
   have HO334:=Aside0.mk (Kd.R_lower ho21 (Qb3 (w:=w) (g:=g) (row:=none) (uP HK)));replace HI0:=Aside0.mk (Qb.below (Qb.u HI0) hb);replace BK321:=Aside0.mk (Qc (uK BK321) hb);replace HK:=Aside0.mk (Qg.trans (uP HK) (Qg.of_below hb g none) (.inl rfl));replace HB:=Aside0.mk (Qa (uB HB) hb);clear hb ho21;obtain ⟨Ao22,co22,eo22⟩:=Kd.R_slice HO334.out
   (first|subst eo22|(injection eo22 with f1_ f2_ f3_;have f4_:=f1_.symm;have f5_:=f3_.symm;clear f1_ f2_ f3_;subst f4_;subst f5_))
   refine hK.out _ _ trivial (fun hHeld=> ?_);clear hK K;refine nU 30 ?_;refine oU 7 (some 31) fun K hK=> ?_
   refine Qes Tryz.func190 (by kernel_rfl) rfl #[.pointer (some ⟨g,0,none⟩), .slice Ao22 y332.length co22] (by rfl) rfl rfl (by (try simp only [List.map_toArray,List.map_cons,List.map_nil]);first|done|rfl|(simp only [List.length_drop,List.length_take];rfl)) ?_
   with_reducible refine (Qdf.calls g s0_0 t330 t331 _ _ y332 t335 t336 t337 w0 _ ?side1 ?side2 ?side3 ?side4 ?side5 A12.out).mono ?_
   (case side1=>repeat (first|(with_reducible first|exact HI0.out|apply Qb.alloc|apply Qb.drewN|apply Qb.drew|apply Qb.set_1|apply Qb.set_2|refine Qb.far ?_ NB0_321.out _)|exact HI0.out))
   (case side2=>repeat (first|(with_reducible first|exact HB.out|apply Qo|apply Qq|apply Qy|refine Q4 ?_ (Qb.ge HI0.out)|refine Q4 ?_ GE321.out)|exact HB.out))
   (case side3=>repeat (first|exact (Kd.R_reads' HO334.out).2.2|(with_reducible refine Kd.C_alloc ?_ _)|(with_reducible refine Kd.C_drewN ?_ _)|(with_reducible refine Kd.C_drew ?_)))
   (case side4=>exact (Kd.R_reads' HO334.out).2.1)
   (case side5=>exact Qgm (Qb.own_ne HI0.out HO334.out (by decide)))
   rintro e w23 ⟨rfl,hi,hb,hk⟩;refine ⟨_,rfl,?_⟩;replace BK321:=Aside0.mk (Qg.blk hk (g':=gb321) (o:= .cells #[.slice A1_0 l1_0.length c1_0] 26 (0,0)) (uK BK321) NB321_0.out (by simp));replace HO334:=Aside0.mk (Kd.R_mono (Kd.R_keep (Qb.apart (show Qb w0 _ g s0_0 t330 t331 from Qb.u HI0) (uR HO334) (by decide)) hk (fun _ h=>h.2)) (fun _ h=>h.1));replace HK:=Aside0.mk (Qg.trans (uP HK) hk (.inl rfl));replace HB:=Aside0.mk (hb);replace HI0:=Aside0.mk (hi)
   skip
   skip
   skip
   skip
   refine hK.out _ _ trivial (fun hHeld=> ?_);clear hK K;refine nU 31 ?_;refine pU 8 4 ?_;refine dU ?_
   try go_wp2
   go_ret
   exact ⟨by first|rfl|(simp [Qd,Qe] <;>rfl)|(simp only [←hji7];first|rfl|(simp [Qd,Qe] <;>rfl))|(simp [*,Qd,Qe] <;>rfl),Qb.u HI0,uB HB,uP HK⟩
  ·
   replace c9:=Bool.eq_false_iff.mpr c9;subst c9;rw [if_neg (show ¬ (false=true) by decide)] at H;simp only [Option.some.injEq,Prod.mk.injEq] at H;obtain ⟨rfl,rfl,rfl⟩:=H;go_enter Tryz.func297,Tryz.ntmps297;go_wp2_with (first|(refine bE (N:=3) (cs:= #[.slice A1_0 l1_0.length c1_0]) (t:=26) ?_;intro gb321 hg w24 hbox hb;replace HB:=Aside0.mk (Qa (uB HB) hb);have BK321:=Aside0.mk (hbox);have GW321:=Aside0.mk ((gW hg (uP HK)));have GE321:=Aside0.mk ((Nat.le_trans HW0.out (gW hg (uP HK))));replace HK:=Aside0.mk (Qg.trans (uP HK) (Qg.of_below hb g none) (.inl rfl));have NB0_321:=Aside0.mk ((nL hg (Qb.lt (Qb.u HI0))));have NB321_0:=Aside0.mk ((nG hg (Qb.lt (Qb.u HI0))));replace HI0:=Aside0.mk (Qb.below (Qb.u HI0) hb);clear hb hbox hg;have hnb25:=NB321_0.out;have hnc25:=NB0_321.out;have hcz26_0:=bC BK321;have hfz26_0:=Qf BK321.out 0)|(refine gA (some 10) Tryz.func339 #[.int .i64 (l1_0.length:Int), .int .i64 12] ?_;(with_reducible refine (Qe7.calls (l1_0.length:Int) 12 t322 _ A3.out).mono ?_);rintro e w' ⟨rfl,⟨nd,rfl⟩⟩;refine ⟨_,rfl,?_⟩)|(refine gA (some 12) Tryz.func162 #[.pointer (some ⟨g,0,none⟩), .int .i64 256] ?_;(with_reducible refine (Qz.calls g s0_0 s0_1 s0_2 256 t323 t324 t325 w0 _ (Qb.u HI0) (uB HB) A4.out).mono ?_);rintro e w27 ⟨rfl,hi,hb,hk⟩;refine ⟨_,rfl,?_⟩;replace BK321:=Aside0.mk (Qg.blk hk (g':=gb321) (o:= .cells #[.slice A1_0 l1_0.length c1_0] 26 (0,0)) (uK BK321) NB321_0.out (by simp));replace HK:=Aside0.mk (Qg.trans (uP HK) hk (.inl rfl));replace HB:=Aside0.mk (hb);replace HI0:=Aside0.mk (hi);(try clear hb hk hi))|(refine gA (some 14) Tryz.func162 #[.pointer (some ⟨g,0,none⟩), .int .i64 16] ?_;(with_reducible refine (Qz.calls g s0_0 t324 t325 16 t326 t327 t328 w0 _ (Qb.u HI0) (uB HB) A5.out).mono ?_);rintro e w28 ⟨rfl,hi,hb,hk⟩;refine ⟨_,rfl,?_⟩;replace BK321:=Aside0.mk (Qg.blk hk (g':=gb321) (o:= .cells #[.slice A1_0 l1_0.length c1_0] 26 (0,0)) (uK BK321) NB321_0.out (by simp));replace HK:=Aside0.mk (Qg.trans (uP HK) hk (.inl rfl));replace HB:=Aside0.mk (hb);replace HI0:=Aside0.mk (hi);(try clear hb hk hi))|(refine gA (some 23) Tryz.func161 #[.pointer (some ⟨g,0,none⟩), .int .i64 12] ?_;(with_reducible refine (Qcv.calls g s0_0 t327 t328 12 false t330 t331 w0 _ (Qb.u HI0) (uB HB) A8.out).mono ?_);rintro e w29 ⟨rfl,hi,hb,hk⟩;refine ⟨_,rfl,?_⟩;replace BK321:=Aside0.mk (Qg.blk hk (g':=gb321) (o:= .cells #[.slice A1_0 l1_0.length c1_0] 26 (0,0)) (uK BK321) NB321_0.out (by simp));replace HK:=Aside0.mk (Qg.trans (uP HK) hk (.inl rfl));replace HB:=Aside0.mk (hb);replace HI0:=Aside0.mk (hi);(try clear hb hk hi)))
   go_ret
   exact ⟨by first|rfl|(simp [Qd,Qe] <;>rfl)|(simp only [←hji7];first|rfl|(simp [Qd,Qe] <;>rfl))|(simp [*,Qd,Qe] <;>rfl),Qb.u HI0,uB HB,uP HK⟩
 ·
  rw [if_neg c6] at H;exact absurd H (by simp)
def Qcj.l0 : Nat → Int → Int → List Int → Int → Int → Option (Int)
 |0,_,_,_,_,_=>none
 |k+1,x1,x5,x10,x11,x12=>if x12<x11 then (if 0≤x12 then (if x12<(x10.length:Int) then ((Qcq.f x1 x12).bind fun t340=>(if t340=true then (Qcj.l0 k x1 (Go.bits .or .i64 x5 (rd x10 x12)) x10 x11 (wrap64 (x12+1))) else (Qcj.l0 k x1 x5 x10 x11 (wrap64 (x12+1))))) else (none)) else (none)) else (some x5)
def Qcj.f (k : Nat) (l0_0 : List Int) (a1 : Int) : Option (Int) := Qcj.l0 k a1 a1 l0_0 (l0_0.length : Int) 0
theorem Qcj.mono_l : ∀ k, (∀ y0 y1 y2 y3 y4, LeO (Qcj.l0 k y0 y1 y2 y3 y4) (Qcj.l0 (k + 1) y0 y1 y2 y3 y4))
 |0=>fun _ _ _ _ _ r h=>by simp [Qcj.l0] at h
 |k+1=>by
  have ih0:=Qcj.mono_l k
  ·
   intro y0 y1 y2 y3 y4;unfold Qcj.l0
   repeat' first
   |(with_reducible exact ih0 _ _ _ _ _)
   |(with_reducible exact LeO.refl _)
   |(with_reducible exact LeO.none _)
   |(with_reducible refine LeO.ite ?_ ?_)
   |(with_reducible refine LeO.bind ?_ (fun _=> ?_))
   |exact ih0 _ _ _ _ _
   |exact LeO.none _
   |refine LeO.ite ?_ ?_
   |refine LeO.bind ?_ (fun _=> ?_)
theorem Qcj.mono : ∀ a0 a1 k, LeO (Qcj.f k a0 a1) (Qcj.f (k + 1) a0 a1) := by
 intro a0 a1 k;have ih0:=Qcj.mono_l k;unfold Qcj.f
 repeat' (with_reducible first|apply ih0|exact LeO.refl _|exact LeO.none _|refine LeO.ite ?_ ?_|refine LeO.bind ?_ (fun _=> ?_))
set_option maxHeartbeats 8000000 in
set_option maxRecDepth 100000 in
theorem Qcj.calls (k : Nat) (A0_0 : Option Addr) (c0_0 : Nat) (l0_0 : List Int) (a1 : Int) (r : Int) (w : World) (hr0_0 : Kd.C (Kd.int .i64) w A0_0 l0_0.length l0_0) (hc0_0 : l0_0.length ≤ c0_0) (h : Qcj.f k l0_0 a1 = some r) :
 Calls Tryz.prog 298 #[.agg #[.slice A0_0 l0_0.length c0_0], .int .i64 a1] w fun e w'=>e= .returned (.int .i64 r)∧Below w.heap.size w w':=by
 have hu26:=Tryz.underlying26;have HR0_0:=Aside0.mk hr0_0;have HC0_0:=Aside0.mk hc0_0;clear hr0_0 hc0_0;have HB:=Aside0.mk (Below.refl w.heap.size w);have H:(Qcj.l0 k a1 a1 l0_0 (l0_0.length:Int) 0)=some r:=h;clear h;have H':=Aside0.mk H;clear H;go_enter Tryz.func298,Tryz.ntmps298;go_wp2_with (first|(refine bE (N:=2) (cs:= #[.slice A0_0 l0_0.length c0_0]) (t:=26) ?_;intro gb338 hg w3 hbox hb;have BK338:=Aside0.mk (hbox);have GW338:=Aside0.mk ((gV hg (uB HB)));have GE338:=GW338;replace HB:=Aside0.mk (Qa (uB HB) hb);clear hb hbox hg;have hcz4_0:=bC BK338;have hfz4_0:=Qf BK338.out 0))
 go_loopg [5,12] k (fun kq v5 v12 w'=> ∃ (x5_1:Int) (x12_1:Int),v5= .int .i64 x5_1∧v12= .int .i64 x12_1∧Aside0 (Qcj.l0 kq a1 x5_1 l0_0 (l0_0.length:Int) x12_1=some r)∧Aside0 (kq≤k)∧Aside0 (w'.heap[gb338]? =some (.cells #[(.slice A0_0 l0_0.length c0_0)] 26 (0,0)))∧Aside0 (Below w.heap.size w w'))
 case atStart=>exact ⟨(a1),(0),(by first|rfl|(simp;done)|(simp [*];done)),(by first|rfl|(simp;done)|(simp [*];done)),H',⟨Nat.le_refl _⟩,⟨uK BK338⟩,⟨uB HB⟩⟩
 case round=>
  clear H'
  try clear c2
  try clear p2
  try clear hcz4_0
  try clear hfz4_0
  obtain ⟨x5_1,x12_1,rfl,rfl,HA,HK1,BK338,HB⟩:=hrel;cases gk with
  |zero=>exact absurd HA.out (by simp [Qcj.l0])
  |succ k1=>
   have H:=HA.out;clear HA;simp only [Qcj.l0] at H
   by_cases c5:x12_1<(l0_0.length:Int)
   ·
    rw [if_pos c5] at H;have c5b0:=decide_eq_true c5;clear c5
    by_cases c6:0≤x12_1
    ·
     rw [if_pos c6] at H;have c6b0:=decide_eq_true c6;clear c6
     by_cases c7:x12_1<(l0_0.length:Int)
     ·
      rw [if_pos c7] at H;have c7b0:=decide_eq_true c7;clear c7;obtain ⟨t340,A8,H⟩:=bs H;(try dsimp only at H)
      by_cases c9:t340=true
      ·
       subst c9;rw [if_pos rfl] at H;have H':=Aside0.mk H;clear H;have p339:0≤(x12_1:Int):=of_decide_eq_true (by first|(with_reducible assumption)|assumption);have q339:x12_1<(l0_0.length:Int):=of_decide_eq_true (by first|(with_reducible assumption)|assumption);obtain ⟨ad339,e339,hx339_0⟩:=Kd.at_int HR0_0.out x12_1 p339 q339;cases e339;replace hx339_0:=(HB.out.cell (World.block_lt_of_cell? w _ hx339_0)).trans hx339_0;replace p339:=eq_true p339;replace q339:=eq_true q339;go_wp2_with (first|(refine gA (some 19) Tryz.func253 #[.int .i64 a1, .int .i64 x12_1] ?_;(with_reducible refine (Qcq.calls a1 x12_1 true _ A8.out).mono ?_);rintro e w' ⟨rfl,⟨nd,rfl⟩⟩;refine ⟨_,rfl,?_⟩));go_roundg k1
       case measure=>have:=HK1.out;omega
       case rel=>exact ⟨(Go.bits .or .i64 x5_1 (rd l0_0 x12_1)),(wrap64 (x12_1+1)),(by first|rfl|(simp;done)|(simp [*];done)),(by first|rfl|(simp;done)|(simp [*];done)),H',⟨by have:=HK1.out;omega⟩,⟨uK BK338⟩,⟨uB HB⟩⟩
      ·
       replace c9:=Bool.eq_false_iff.mpr c9;subst c9;rw [if_neg (show ¬ (false=true) by decide)] at H;have H':=Aside0.mk H;clear H;have p339:0≤(x12_1:Int):=of_decide_eq_true (by first|(with_reducible assumption)|assumption);have q339:x12_1<(l0_0.length:Int):=of_decide_eq_true (by first|(with_reducible assumption)|assumption);obtain ⟨ad339,e339,hx339_0⟩:=Kd.at_int HR0_0.out x12_1 p339 q339;cases e339;replace hx339_0:=(HB.out.cell (World.block_lt_of_cell? w _ hx339_0)).trans hx339_0;replace p339:=eq_true p339;replace q339:=eq_true q339;go_wp2_with (first|(refine gA (some 19) Tryz.func253 #[.int .i64 a1, .int .i64 x12_1] ?_;(with_reducible refine (Qcq.calls a1 x12_1 false _ A8.out).mono ?_);rintro e w' ⟨rfl,⟨nd,rfl⟩⟩;refine ⟨_,rfl,?_⟩));go_roundg k1
       case measure=>have:=HK1.out;omega
       case rel=>exact ⟨(x5_1),(wrap64 (x12_1+1)),(by first|rfl|(simp;done)|(simp [*];done)),(by first|rfl|(simp;done)|(simp [*];done)),H',⟨by have:=HK1.out;omega⟩,⟨uK BK338⟩,⟨uB HB⟩⟩
     ·
      rw [if_neg c7] at H;exact absurd H (by simp)
    ·
     rw [if_neg c6] at H;exact absurd H (by simp)
   ·
    rw [if_neg c5] at H;have c5b0:=decide_eq_false c5;clear c5;obtain rfl:=Option.some.inj H;go_wp2
    go_ret
    exact ⟨by first|rfl|(simp [Qd,Qe] <;>rfl)|(simp [*,Qd,Qe] <;>rfl),uB HB⟩
def Q5.j0 : Nat → Int → Bool → List Int → Int → Int → List Int → Option (List Int × Int × Int × Int)
 |0,_,_,_,_,_,_=>none
 |k+1,x7,x25,x1000,x1001,x1002,x348000=>if x25=true then ((Qck.f x1000 x1001 x1002 x348000).bind fun bt356=>((Qcd.f k x348000 (Go.bits .and .i64 x7 bt356.1)).bind fun t359=>((Qcj.f k x348000 t359).bind fun t360=>(some (x348000,t360,bt356.2.1,bt356.2.2))))) else (some (x348000,x7,x1001,x1002))
def Q5.f (k : Nat) (s0_0 : List Int) (s0_1 : Int) (s0_2 : Int) (a1 : Int) : Option (List Int × Int × Int × Int) := (Q0.f k s0_0 s0_1 s0_2 a1).bind fun bt342 => ((Qck.f s0_0 bt342.2.1 bt342.2.2 bt342.1).bind fun bt348 => ((Qbb.f k bt342.1).bind fun t351 => (if t351 = true then ((Qdo.f bt342.1 bt348.1).bind fun t352 => (if t352 = true then ((Qcv.f s0_0 bt348.2.1 bt348.2.2 12).bind fun bt353 => (Q5.j0 k bt348.1 (!bt353.1) s0_0 bt353.2.1 bt353.2.2 bt342.1)) else (Q5.j0 k bt348.1 false s0_0 bt348.2.1 bt348.2.2 bt342.1))) else (Q5.j0 k bt348.1 false s0_0 bt348.2.1 bt348.2.2 bt342.1))))
theorem Q5.mono_l : ∀ k, (∀ y0 y1 y2 y3 y4 y5, LeO (Q5.j0 k y0 y1 y2 y3 y4 y5) (Q5.j0 (k + 1) y0 y1 y2 y3 y4 y5))
 |0=>fun _ _ _ _ _ _ r h=>by simp [Q5.j0] at h
 |k+1=>by
  have ih0:=Q5.mono_l k
  ·
   intro y0 y1 y2 y3 y4 y5;unfold Q5.j0
   repeat' first
   |(with_reducible exact ih0 _ _ _ _ _ _)
   |(with_reducible exact Q0.mono _ _ _ _ _)
   |(with_reducible exact Qcj.mono _ _ _)
   |(with_reducible exact Qbb.mono _ _)
   |(with_reducible exact Qcd.mono _ _ _)
   |(with_reducible exact LeO.refl _)
   |(with_reducible exact LeO.none _)
   |(with_reducible refine LeO.ite ?_ ?_)
   |(with_reducible refine LeO.bind ?_ (fun _=> ?_))
   |exact ih0 _ _ _ _ _ _
   |exact Q0.mono _ _ _ _ _
   |exact Qcj.mono _ _ _
   |exact Qbb.mono _ _
   |exact Qcd.mono _ _ _
   |exact LeO.none _
   |refine LeO.ite ?_ ?_
   |refine LeO.bind ?_ (fun _=> ?_)
theorem Q5.mono : ∀ a0 a1 a2 a3 k, LeO (Q5.f k a0 a1 a2 a3) (Q5.f (k + 1) a0 a1 a2 a3) := by
 intro a0 a1 a2 a3 k;have ih0:=Q5.mono_l k;unfold Q5.f
 repeat' (with_reducible first|apply ih0|apply Q0.mono|apply Qcj.mono|apply Qbb.mono|apply Qcd.mono|exact LeO.refl _|exact LeO.none _|refine LeO.ite ?_ ?_|refine LeO.bind ?_ (fun _=> ?_))
def Q5.T4 : Bool × List (List Nat × List Nat) := (true, [([], []), ([], []), ([], []), ([], []), ([], []), ([3, 4], [3, 4]), ([2, 5], [2, 5]), ([1, 6, 5], [1, 6]), ([0, 7, 7], [0, 7]), ([8, 8, 0, 1, 2, 3, 4, 5, 6, 7, 8], [2, 8])])
def Q5.B4 : List Nat := [0, 0, 0, 0, 0, 24, 60, 126, 255, 511]
theorem Q5.tab4 : rtab .any (Qf2 Tryz.f234 4) = Q5.T4 := by kernel_rfl
theorem Q5.bits4 : Qd9 Q5.T4.2 Q5.B4 = true := by kernel_rfl
set_option maxHeartbeats 8000000 in
set_option maxRecDepth 100000 in
theorem Q5.calls (k : Nat) (g : Nat) (s0_0 : List Int) (s0_1 : Int) (s0_2 : Int) (a1 : Int) (r1 : List Int) (r2 : Int) (r3 : Int) (r4 : Int) (w0 w : World) (hI : Qb w0 w g s0_0 s0_1 s0_2) (hB : Below w0.heap.size w0 w) (h : Q5.f k s0_0 s0_1 s0_2 a1 = some (r1, r2, r3, r4)) :
 Calls Tryz.prog 234 #[.pointer (some ⟨g,0,none⟩), .int .i64 a1] w fun e w'=> ∃ v0_:Value,e= .returned (.tuple #[.agg #[v0_], .int .i64 r2])∧Kd.R (Kd.int .i64) 3 w' w.heap.size (fun _=>True) v0_ r1∧Qb w0 w' g s0_0 r3 r4∧Below w0.heap.size w0 w'∧Qg w w' g none:=by
 have hu26:=Tryz.underlying26;have HI0:=Aside0.mk hI;have HK:=Aside0.mk (Qg.refl w g none);have HL:=Aside0.mk hB.size;clear hI;have HW0:=Aside0.mk hB.size;have HB:=Aside0.mk hB;clear hB;have H:((Q0.f k s0_0 s0_1 s0_2 a1).bind fun bt342=>((Qck.f s0_0 bt342.2.1 bt342.2.2 bt342.1).bind fun bt348=>((Qbb.f k bt342.1).bind fun t351=>(if t351=true then ((Qdo.f bt342.1 bt348.1).bind fun t352=>(if t352=true then ((Qcv.f s0_0 bt348.2.1 bt348.2.2 12).bind fun bt353=>(Q5.j0 k bt348.1 (!bt353.1) s0_0 bt353.2.1 bt353.2.2 bt342.1)) else (Q5.j0 k bt348.1 false s0_0 bt348.2.1 bt348.2.2 bt342.1))) else (Q5.j0 k bt348.1 false s0_0 bt348.2.1 bt348.2.2 bt342.1)))))=some (r1,r2,r3,r4):=h;clear h;obtain ⟨⟨t342,t345,t346⟩,A3,H⟩:=bs H;(try dsimp only at H)
 obtain ⟨⟨t348,t349,t350⟩,A4,H⟩:=bs H;(try dsimp only at H)
 have HC5:=Aside0.mk H;clear H;go_enter Tryz.func234,Tryz.ntmps234;go_upto_region 3 with (first|(refine bE (N:=4) (cs:= #[.slice none 0 0]) (t:=26) ?_;intro gb341 hg w6 hbox hb;replace HB:=Aside0.mk (Qa (Qb.vB HB) hb);have BK341:=Aside0.mk (hbox);have GW341:=Aside0.mk ((by rw [hg];exact (Qb3 (w:=w) (g:=g) (row:=none) (vK HK)):w.heap.size≤gb341));have GE341:=Aside0.mk ((Nat.le_trans HW0.out (by rw [hg];exact (Qb3 (w:=w) (g:=g) (row:=none) (vK HK)):w.heap.size≤gb341):w0.heap.size≤gb341));replace HK:=Aside0.mk (Qg.trans (vK HK) (Qg.of_below hb g none) (.inl rfl));have NB0_341:=Aside0.mk ((by rw [hg];exact Nat.ne_of_lt (Qb.lt (show Qb w0 _ g s0_0 s0_1 s0_2 from (Qb.vI HI0))):g≠gb341));have NB341_0:=Aside0.mk ((by rw [hg];exact Nat.ne_of_gt (Qb.lt (show Qb w0 _ g s0_0 s0_1 s0_2 from (Qb.vI HI0))):gb341≠g));replace HI0:=Aside0.mk (Qb.below (Qb.vI HI0) hb);clear hb hbox hg)|(refine gA (some 10) Tryz.func164 #[.pointer (some ⟨g,0,none⟩), .int .i64 a1] ?_;(with_reducible refine (Q0.calls k g s0_0 s0_1 s0_2 a1 t342 t345 t346 w0 _ (Qb.vI HI0) (Qb.vB HB) A3.out).mono ?_);rintro e w7 ⟨v343,rfl,ho0,hi,hb,hk⟩;refine ⟨_,rfl,?_⟩;replace BK341:=Aside0.mk (Qg.blk hk (g':=gb341) (o:= .cells #[.slice none 0 0] 26 (0,0)) (uK BK341) NB341_0.out (by simp));have HO344:=Aside0.mk (Kd.R_lower ho0 (Qb3 (w:=w) (g:=g) (row:=none) (vK HK)));replace HK:=Aside0.mk (Qg.trans (vK HK) hk (.inl rfl));replace HB:=Aside0.mk (hb);replace HI0:=Aside0.mk (hi);(try clear hb hk hi ho0))|(refine bE (N:=6) (cs:= #[.slice none 0 0]) (t:=26) ?_;intro gb347 hg w8 hbox hb;replace HO344:=Aside0.mk (Kd.R_below (uR HO344) hb);replace HB:=Aside0.mk (Qa (Qb.vB HB) hb);have BK347:=Aside0.mk (hbox);have GW347:=Aside0.mk ((by rw [hg];exact (Qb3 (w:=w) (g:=g) (row:=none) (vK HK)):w.heap.size≤gb347));have GE347:=Aside0.mk ((Nat.le_trans HW0.out (by rw [hg];exact (Qb3 (w:=w) (g:=g) (row:=none) (vK HK)):w.heap.size≤gb347):w0.heap.size≤gb347));replace HK:=Aside0.mk (Qg.trans (vK HK) (Qg.of_below hb g none) (.inl rfl));have NB341_347:=Aside0.mk ((by rw [hg];exact Nat.ne_of_lt (Qcc (uK BK341)):gb341≠gb347));have NB347_341:=Aside0.mk ((by rw [hg];exact Nat.ne_of_gt (Qcc (uK BK341)):gb347≠gb341));replace BK341:=Aside0.mk (Qc (uK BK341) hb);have NB0_347:=Aside0.mk ((by rw [hg];exact Nat.ne_of_lt (Qb.lt (show Qb w0 _ g s0_0 t345 t346 from (Qb.vI HI0))):g≠gb347));have NB347_0:=Aside0.mk ((by rw [hg];exact Nat.ne_of_gt (Qb.lt (show Qb w0 _ g s0_0 t345 t346 from (Qb.vI HI0))):gb347≠g));replace HI0:=Aside0.mk (Qb.below (Qb.vI HI0) hb);clear hb hbox hg;obtain ⟨Ao9,co9,eo9⟩:=Kd.R_slice HO344.out;subst eo9;have hnb10:=NB347_341.out;have hnc10:=NB341_347.out;have hnb11:=NB347_0.out;have hnc11:=NB0_347.out;have hcz12_0:=bC BK347;have hfz12_0:=Qf BK347.out 0)|(refine gA (some 13) Tryz.func297 #[.pointer (some ⟨g,0,none⟩), .agg #[.slice Ao9 t342.length co9]] ?_;(with_reducible refine (Qck.calls g s0_0 t345 t346 _ _ t342 t348 t349 t350 w0 _ (Qb.vI HI0) (Qb.vB HB) ?side3 ?side4 ?side5 A4.out).mono ?_);(case side3=>refine (Kd.R_reads' (e:=3) (base:=w.heap.size) (ok:=fun k_=>True) (n:=t342.length) (c:=co9) ?_).2.2;exact (rF HO344 BK347 (.slice Ao9 t342.length co9)));(case side4=>exact (Kd.R_reads' HO344.out).2.1);(case side5=>exact Qgm (Qb.own_ne HI0.out HO344.out (by decide)));rintro e w13 ⟨rfl,hi,hb,hk⟩;refine ⟨_,rfl,?_⟩;replace BK341:=Aside0.mk (Qg.blk hk (g':=gb341) (o:= .cells #[.slice none 0 0] 26 (0,0)) kF NB341_0.out (by simp));replace HO344:=Aside0.mk (Kd.R_mono (Kd.R_keep (Qb.apart (show Qb w0 _ g s0_0 t345 t346 from (Qb.vI HI0)) (rF HO344 BK347 (.slice Ao9 t342.length co9)) (by decide)) hk (fun _ h=>h.2)) (fun _ h=>h.1));replace BK347:=Aside0.mk (Qg.blk hk (g':=gb347) (o:= .cells #[.slice Ao9 t342.length co9] 26 (0,0)) (by (with_reducible repeat (first|refine Qk ?_ _|refine Qj ?_|refine Qi ?_ _));refine Qcs (cs:= #[.slice none 0 0]) ?_ 0 _ rfl;(with_reducible repeat (first|refine Qk ?_ _|refine Qj ?_|refine Qi ?_ _));exact BK347.out) NB347_0.out (by simp));replace HK:=Aside0.mk (Qg.trans (vK HK) hk (.inl rfl));replace HB:=Aside0.mk (hb);replace HI0:=Aside0.mk (hi);(try clear hb hk hi)))
 (try simp only [Act.put,List.setIfInBounds_toArray,List.set_cons_zero,List.set_cons_succ])
 go_cut [25] (fun v25 wc=> ∃ (kq:Nat) (x25_4:Bool) (x1001_4:Int) (x1002_4:Int),v25= .bool x25_4∧Aside0 (Q5.j0 kq t348 x25_4 s0_0 x1001_4 x1002_4 t342=some (r1,r2,r3,r4))∧Aside0 (kq≤k)∧Aside0 (Kd.R (Kd.int .i64) 3 wc w.heap.size (fun _=>True) (.slice Ao9 t342.length co9) t342)∧Aside0 (wc.heap[gb341]? =some (.cells #[(.slice none 0 0)] 26 (0,0)))∧Aside0 (wc.heap[gb347]? =some (.cells #[(.slice Ao9 t342.length co9)] 26 (0,0)))∧Aside0 (Qb w0 wc g s0_0 x1001_4 x1002_4)∧Aside0 (Qg w wc g none)∧Aside0 (Below w0.heap.size w0 wc))
 case first=>
  have H:=HC5.out;clear HC5;obtain ⟨t351,A14,H⟩:=bs H;(try dsimp only at H)
  by_cases c15:t351=true
  ·
   subst c15;rw [if_pos rfl] at H;obtain ⟨t352,A16,H⟩:=bs H;(try dsimp only at H)
   by_cases c17:t352=true
   ·
    subst c17;rw [if_pos rfl] at H;obtain ⟨⟨t353,t354,t355⟩,A18,H⟩:=bs H;(try dsimp only at H)
    have H':=Aside0.mk H;clear H;have hnb19:=NB347_341.out;have hnc19:=NB341_347.out;have hnb20:=NB347_0.out;have hnc20:=NB0_347.out;have hcz21_0:=bC BK347;have hfz21_0:=Qf BK347.out 0;go_wp2_with (first|(refine gA (some 15) Tryz.func183 #[.agg #[.slice Ao9 t342.length co9]] ?_;(with_reducible refine (Qbb.calls k _ _ t342 true _ (uE HO344) ?side2 A14.out).mono ?_);(case side2=>exact (Kd.R_reads' HO344.out).2.1);rintro e w22 ⟨rfl,hb⟩;refine ⟨_,rfl,?_⟩;replace HO344:=Aside0.mk (Kd.R_below (uR HO344) hb);replace HI0:=Aside0.mk (Qb.below (Qb.u HI0) hb);replace BK341:=Aside0.mk (Qc (uK BK341) hb);replace BK347:=Aside0.mk (Qc (uK BK347) hb);replace HK:=Aside0.mk (Qg.trans (vK HK) (Qg.of_below hb g none) (.inl rfl));replace HB:=Aside0.mk (Qa (uB HB) hb);(try clear hb);have hcz23_0:=bC BK347;have hfz23_0:=Qf BK347.out 0)|(go_at_call 199;(with_reducible refine (Qdo.calls _ _ t342 t348 true _ (uE HO344) ?side2 A16.out).mono ?_);(case side2=>exact (Kd.R_reads' HO344.out).2.1);rintro e w24 ⟨rfl,hb⟩;replace HO344:=Aside0.mk (Kd.R_below (uR HO344) hb);replace HI0:=Aside0.mk (Qb.below (Qb.u HI0) hb);replace BK341:=Aside0.mk (Qc (uK BK341) hb);replace BK347:=Aside0.mk (Qc (uK BK347) hb);replace HK:=Aside0.mk (Qg.trans (vK HK) (Qg.of_below hb g none) (.inl rfl));replace HB:=Aside0.mk (Qa (uB HB) hb);(try clear hb))|(go_at_call 161;(with_reducible refine (Qcv.calls g s0_0 t349 t350 12 t353 t354 t355 w0 _ (Qb.u HI0) (uB HB) A18.out).mono ?_);rintro e w25 ⟨rfl,hi,hb,hk⟩;replace BK341:=Aside0.mk (Qg.blk hk (g':=gb341) (o:= .cells #[.slice none 0 0] 26 (0,0)) (uK BK341) NB341_0.out (by simp));replace HO344:=Aside0.mk (Kd.R_mono (Kd.R_keep (Qb.apart (show Qb w0 _ g s0_0 t349 t350 from Qb.u HI0) (uR HO344) (by decide)) hk (fun _ h=>h.2)) (fun _ h=>h.1));replace BK347:=Aside0.mk (Qg.blk hk (g':=gb347) (o:= .cells #[.slice Ao9 t342.length co9] 26 (0,0)) (uK BK347) NB347_0.out (by simp));replace HK:=Aside0.mk (Qg.trans (vK HK) hk (.inl rfl));replace HB:=Aside0.mk (hb);replace HI0:=Aside0.mk (hi);(try clear hb hk hi)))
    go_meet
    case rel=>exact ⟨_,(!t353),(t354),(t355),(by first|rfl|(simp;done)|(simp [*];done)),H',⟨by first|omega|exact Nat.le_refl _⟩,⟨uR HO344⟩,⟨uK BK341⟩,⟨uK BK347⟩,⟨Qb.u HI0⟩,⟨(vK HK)⟩,⟨uB HB⟩⟩
   ·
    replace c17:=Bool.eq_false_iff.mpr c17;subst c17;rw [if_neg (show ¬ (false=true) by decide)] at H;have H':=Aside0.mk H;clear H;have hnb26:=NB347_341.out;have hnc26:=NB341_347.out;have hnb27:=NB347_0.out;have hnc27:=NB0_347.out;have hcz28_0:=bC BK347;have hfz28_0:=Qf BK347.out 0;go_wp2_with (first|(refine gA (some 15) Tryz.func183 #[.agg #[.slice Ao9 t342.length co9]] ?_;(with_reducible refine (Qbb.calls k _ _ t342 true _ (uE HO344) ?side2 A14.out).mono ?_);(case side2=>exact (Kd.R_reads' HO344.out).2.1);rintro e w29 ⟨rfl,hb⟩;refine ⟨_,rfl,?_⟩;replace HO344:=Aside0.mk (Kd.R_below (uR HO344) hb);replace HI0:=Aside0.mk (Qb.below (Qb.u HI0) hb);replace BK341:=Aside0.mk (Qc (uK BK341) hb);replace BK347:=Aside0.mk (Qc (uK BK347) hb);replace HK:=Aside0.mk (Qg.trans (vK HK) (Qg.of_below hb g none) (.inl rfl));replace HB:=Aside0.mk (Qa (uB HB) hb);(try clear hb);have hcz30_0:=bC BK347;have hfz30_0:=Qf BK347.out 0)|(go_at_call 199;(with_reducible refine (Qdo.calls _ _ t342 t348 false _ (uE HO344) ?side2 A16.out).mono ?_);(case side2=>exact (Kd.R_reads' HO344.out).2.1);rintro e w31 ⟨rfl,hb⟩;replace HO344:=Aside0.mk (Kd.R_below (uR HO344) hb);replace HI0:=Aside0.mk (Qb.below (Qb.u HI0) hb);replace BK341:=Aside0.mk (Qc (uK BK341) hb);replace BK347:=Aside0.mk (Qc (uK BK347) hb);replace HK:=Aside0.mk (Qg.trans (vK HK) (Qg.of_below hb g none) (.inl rfl));replace HB:=Aside0.mk (Qa (uB HB) hb);(try clear hb)))
    go_meet
    case rel=>exact ⟨_,(false),(t349),(t350),(by first|rfl|(simp;done)|(simp [*];done)),H',⟨by first|omega|exact Nat.le_refl _⟩,⟨uR HO344⟩,⟨uK BK341⟩,⟨uK BK347⟩,⟨Qb.u HI0⟩,⟨(vK HK)⟩,⟨uB HB⟩⟩
  ·
   replace c15:=Bool.eq_false_iff.mpr c15;subst c15;rw [if_neg (show ¬ (false=true) by decide)] at H;have H':=Aside0.mk H;clear H;have hnb32:=NB347_341.out;have hnc32:=NB341_347.out;have hnb33:=NB347_0.out;have hnc33:=NB0_347.out;have hcz34_0:=bC BK347;have hfz34_0:=Qf BK347.out 0;go_wp2_with (first|(refine gA (some 15) Tryz.func183 #[.agg #[.slice Ao9 t342.length co9]] ?_;(with_reducible refine (Qbb.calls k _ _ t342 false _ (uE HO344) ?side2 A14.out).mono ?_);(case side2=>exact (Kd.R_reads' HO344.out).2.1);rintro e w35 ⟨rfl,hb⟩;refine ⟨_,rfl,?_⟩;replace HO344:=Aside0.mk (Kd.R_below (uR HO344) hb);replace HI0:=Aside0.mk (Qb.below (Qb.u HI0) hb);replace BK341:=Aside0.mk (Qc (uK BK341) hb);replace BK347:=Aside0.mk (Qc (uK BK347) hb);replace HK:=Aside0.mk (Qg.trans (vK HK) (Qg.of_below hb g none) (.inl rfl));replace HB:=Aside0.mk (Qa (uB HB) hb);(try clear hb)))
   go_meet
   case rel=>exact ⟨_,(false),(t349),(t350),(by first|rfl|(simp;done)|(simp [*];done)),H',⟨by first|omega|exact Nat.le_refl _⟩,⟨uR HO344⟩,⟨uK BK341⟩,⟨uK BK347⟩,⟨Qb.u HI0⟩,⟨(vK HK)⟩,⟨uB HB⟩⟩
 case rest=>
  clear HC5
  try clear c1
  try clear c2
  try clear p2
  try clear c3
  try clear c10
  try clear c11
  try clear c15
  try clear c16
  try clear c17
  try clear c18
  try clear c19
  try clear c20
  try clear c23
  try clear c26
  try clear c27
  try clear c29
  try clear c32
  try clear c33
  try clear hcz12_0
  try clear hcz21_0
  try clear hcz23_0
  try clear hcz28_0
  try clear hcz30_0
  try clear hcz34_0
  try clear hfz12_0
  try clear hfz21_0
  try clear hfz23_0
  try clear hfz28_0
  try clear hfz30_0
  try clear hfz34_0
  obtain ⟨kq,x25_4,x1001_4,x1002_4,rfl,HA,HJ4,HO_348000,BK341,BK347,HI0,HK,HB⟩:=hcut;cases kq with
  |zero=>exact absurd HA.out (by simp [Q5.j0])
  |succ kj4=>
   have H:=HA.out;clear HA;simp only [Q5.j0] at H
   by_cases c36:x25_4=true
   ·
    subst c36;rw [if_pos rfl] at H;obtain ⟨⟨t356,t357,t358⟩,A37,H⟩:=bs H;(try dsimp only at H)
    obtain ⟨t359,A38,H⟩:=bs H;(try dsimp only at H)
    obtain ⟨t360,A39,H⟩:=bs H;(try dsimp only at H)
    simp only [Option.some.injEq,Prod.mk.injEq] at H;obtain ⟨rfl,rfl,rfl,rfl⟩:=H
    try go_wp2
    replace HO_348000:=Aside0.mk (Kd.R_drew HO_348000.out);replace BK341:=Aside0.mk (Qj BK341.out);replace BK347:=Aside0.mk (Qj BK347.out);replace HI0:=Aside0.mk (Qb.drew HI0.out);replace HK:=Aside0.mk (Qeo HK.out);replace HB:=Aside0.mk (Qy HB.out);refine sU (n:=10) (S:=fun w'=>w'.cell? ⟨gb347,0,none⟩=some (.slice Ao9 t342.length co9)) (ds:= []) ((Qci BK347.out 0).trans rfl) (fun hHeld=> ?_);refine Qeg Q5.tab4 Q5.bits4 (fun HT_ HW_=> ?_);generalize wc.drew=w40 at HO_348000 BK341 BK347 HI0 HK HB hHeld ⊢;refine pU 2 28 ?_;refine pU 3 29 ?_;refine tU 0 26 hHeld ?_;refine tU 1 27 hHeld ?_;refine tU 4 30 hHeld ?_;refine oU 5 (some 31) fun K hK=> ?_
    refine Qes Tryz.func297 (by kernel_rfl) rfl #[.pointer (some ⟨g,0,none⟩), .agg #[.slice Ao9 t342.length co9]] (by rfl) rfl rfl (by (try simp only [List.map_toArray,List.map_cons,List.map_nil]);first|done|rfl|(simp only [List.length_drop,List.length_take];rfl)) ?_
    with_reducible refine (Qck.calls g s0_0 x1001_4 x1002_4 _ _ t342 t356 t357 t358 w0 _ ?side1 ?side2 ?side3 ?side4 ?side5 A37.out).mono ?_
    (case side1=>repeat (first|(with_reducible first|exact HI0.out|apply Qb.alloc|apply Qb.drewN|apply Qb.drew|apply Qb.set_1|apply Qb.set_2|refine Qb.far ?_ NB0_341.out _|refine Qb.far ?_ NB0_347.out _)|exact HI0.out))
    (case side2=>repeat (first|(with_reducible first|exact HB.out|apply Qo|apply Qq|apply Qy|refine Q4 ?_ (Qb.ge HI0.out)|refine Q4 ?_ GE341.out|refine Q4 ?_ GE347.out)|exact HB.out))
    (case side3=>repeat (first|exact (Kd.R_reads' HO_348000.out).2.2|(with_reducible refine Kd.C_alloc ?_ _)|(with_reducible refine Kd.C_drewN ?_ _)|(with_reducible refine Kd.C_drew ?_)))
    (case side4=>exact (Kd.R_reads' HO_348000.out).2.1)
    (case side5=>exact Qgm (Qb.own_ne HI0.out HO_348000.out (by decide)))
    rintro e w41 ⟨rfl,hi,hb,hk⟩;refine ⟨_,rfl,?_⟩;replace HO_348000:=Aside0.mk (Kd.R_mono (Kd.R_keep (Qb.apart (show Qb w0 _ g s0_0 x1001_4 x1002_4 from Qb.u HI0) (uR HO_348000) (by decide)) hk (fun _ h=>h.2)) (fun _ h=>h.1));replace BK341:=Aside0.mk (Qg.blk hk (g':=gb341) (o:= .cells #[.slice none 0 0] 26 (0,0)) (uK BK341) NB341_0.out (by simp));replace BK347:=Aside0.mk (Qg.blk hk (g':=gb347) (o:= .cells #[.slice Ao9 t342.length co9] 26 (0,0)) (uK BK347) NB347_0.out (by simp));replace HK:=Aside0.mk (Qg.trans (vK HK) hk (.inl rfl));replace HB:=Aside0.mk (hb);replace HI0:=Aside0.mk (hi)
    skip
    skip
    skip
    skip
    refine hK.out _ _ ((Qci BK347.out 0).trans rfl) (fun hHeld=> ?_);clear hK K;refine nU 31 ?_;refine pU 6 32 ?_;refine oU 7 (some 33) fun K hK=> ?_
    refine Qes Tryz.func292 (by kernel_rfl) rfl #[.agg #[.slice Ao9 t342.length co9], .int .i64 (Go.bits .and .i64 t348 t356)] (by rfl) rfl rfl (by (try simp only [List.map_toArray,List.map_cons,List.map_nil]);first|done|rfl|(simp only [List.length_drop,List.length_take];rfl)) ?_
    with_reducible refine (Qcd.calls kj4 _ _ t342 (Go.bits .and .i64 t348 t356) t359 _ ?side1 ?side2 A38.out).mono ?_
    (case side1=>repeat (first|exact (Kd.R_reads' HO_348000.out).2.2|(with_reducible refine Kd.C_alloc ?_ _)|(with_reducible refine Kd.C_drewN ?_ _)|(with_reducible refine Kd.C_drew ?_)))
    (case side2=>exact (Kd.R_reads' HO_348000.out).2.1)
    rintro e w42 ⟨rfl,hb⟩;refine ⟨_,rfl,?_⟩;replace HO_348000:=Aside0.mk (Kd.R_below (uR HO_348000) hb);replace BK341:=Aside0.mk (Qc (uK BK341) hb);replace BK347:=Aside0.mk (Qc (uK BK347) hb);replace HI0:=Aside0.mk (Qb.below (Qb.u HI0) hb);replace HK:=Aside0.mk (Qg.trans (vK HK) (Qg.of_below hb g none) (.inl rfl));replace HB:=Aside0.mk (Qa (uB HB) hb)
    skip
    skip
    skip
    skip
    refine hK.out _ _ ((Qci BK347.out 0).trans rfl) (fun hHeld=> ?_);clear hK K;refine nU 33 ?_;refine oU 8 (some 34) fun K hK=> ?_
    refine Qes Tryz.func298 (by kernel_rfl) rfl #[.agg #[.slice Ao9 t342.length co9], .int .i64 t359] (by rfl) rfl rfl (by (try simp only [List.map_toArray,List.map_cons,List.map_nil]);first|done|rfl|(simp only [List.length_drop,List.length_take];rfl)) ?_
    with_reducible refine (Qcj.calls kj4 _ _ t342 t359 t360 _ ?side1 ?side2 A39.out).mono ?_
    (case side1=>repeat (first|exact (Kd.R_reads' HO_348000.out).2.2|(with_reducible refine Kd.C_alloc ?_ _)|(with_reducible refine Kd.C_drewN ?_ _)|(with_reducible refine Kd.C_drew ?_)))
    (case side2=>exact (Kd.R_reads' HO_348000.out).2.1)
    rintro e w43 ⟨rfl,hb⟩;refine ⟨_,rfl,?_⟩;replace HO_348000:=Aside0.mk (Kd.R_below (uR HO_348000) hb);replace BK341:=Aside0.mk (Qc (uK BK341) hb);replace BK347:=Aside0.mk (Qc (uK BK347) hb);replace HI0:=Aside0.mk (Qb.below (Qb.u HI0) hb);replace HK:=Aside0.mk (Qg.trans (vK HK) (Qg.of_below hb g none) (.inl rfl));replace HB:=Aside0.mk (Qa (uB HB) hb)
    skip
    skip
    skip
    skip
    refine hK.out _ _ ((Qci BK347.out 0).trans rfl) (fun hHeld=> ?_);clear hK K;refine nU 34 ?_;refine pU 9 7 ?_;refine dU ?_;have hnb44:=NB347_341.out;have hnc44:=NB341_347.out;have hnb45:=NB347_0.out;have hnc45:=NB0_347.out;have hcz46_0:=bC BK347;have hfz46_0:=Qf BK347.out 0;have hnb47:=NB341_0.out;have hnc47:=NB0_341.out;have hcz48_0:=bC BK341;have hfz48_0:=Qf BK341.out 0
    try go_wp2
    refine bodyPost_ret (Qd7 rfl _ _ gb341 26 #[.slice Ao9 t342.length co9] (0,0) _ rfl (by (with_reducible repeat (first|refine Qk ?_ _|refine Qj ?_|refine Qi ?_ _));refine Qcs (cs:= #[.slice none 0 0]) ?_ 0 _ rfl;(with_reducible repeat (first|refine Qk ?_ _|refine Qj ?_|refine Qi ?_ _));exact BK341.out) Tryz.underlying26 rfl (by kernel_rfl)) rfl ?_;exact ⟨_,by first|rfl|(simp [Qd,Qe] <;>rfl)|(simp [*,Qd,Qe] <;>rfl),by (with_reducible repeat (first|apply Kd.R_alloc|apply Kd.R_drewN|apply Kd.R_drew));exact Kd.R_mono (Kd.R_far (p:=⟨gb341,0,none⟩) (Kd.R_types HO_348000.out BK341.out (by decide)) (fun _ hk=>hk.2) (.slice Ao9 t342.length co9)) (fun _ hk=>trivial),(Qb.vI HI0),(Qb.vB HB),(vK HK)⟩
   ·
    replace c36:=Bool.eq_false_iff.mpr c36;subst c36;rw [if_neg (show ¬ (false=true) by decide)] at H;simp only [Option.some.injEq,Prod.mk.injEq] at H;obtain ⟨rfl,rfl,rfl,rfl⟩:=H;have hnb49:=NB347_341.out;have hnc49:=NB341_347.out;have hnb50:=NB347_0.out;have hnc50:=NB0_347.out;have hcz51_0:=bC BK347;have hfz51_0:=Qf BK347.out 0;have hnb52:=NB341_0.out;have hnc52:=NB0_341.out;have hcz53_0:=bC BK341;have hfz53_0:=Qf BK341.out 0;go_wp2;refine bodyPost_ret (Qd7 rfl _ _ gb341 26 #[.slice Ao9 t342.length co9] (0,0) _ rfl (by (with_reducible repeat (first|refine Qk ?_ _|refine Qj ?_|refine Qi ?_ _));refine Qcs (cs:= #[.slice none 0 0]) ?_ 0 _ rfl;(with_reducible repeat (first|refine Qk ?_ _|refine Qj ?_|refine Qi ?_ _));exact BK341.out) Tryz.underlying26 rfl (by kernel_rfl)) rfl ?_;exact ⟨_,by first|rfl|(simp [Qd,Qe] <;>rfl)|(simp [*,Qd,Qe] <;>rfl),by (with_reducible repeat (first|apply Kd.R_alloc|apply Kd.R_drewN|apply Kd.R_drew));exact Kd.R_mono (Kd.R_far (p:=⟨gb341,0,none⟩) (Kd.R_types HO_348000.out BK341.out (by decide)) (fun _ hk=>hk.2) (.slice Ao9 t342.length co9)) (fun _ hk=>trivial),(Qb.vI HI0),(Qb.vB HB),(vK HK)⟩
def Qdk.f (k : Nat) (l0 : List Int) : Option (List Int × Int) := (Q5.f k l0 0 0 10).bind fun bt363 => (some (bt363.1, bt363.2.1))
theorem Qdk.mono : ∀ a0 k, LeO (Qdk.f k a0) (Qdk.f (k + 1) a0) := by
 intro a0 k;unfold Qdk.f
 repeat' (with_reducible first|apply Q5.mono|exact LeO.refl _|exact LeO.none _|refine LeO.ite ?_ ?_|refine LeO.bind ?_ (fun _=> ?_))
set_option maxHeartbeats 8000000 in
set_option maxRecDepth 100000 in
theorem Qdk.calls (k : Nat) (A0 : Option Addr) (c0 : Nat) (l0 : List Int) (r1 : List Int) (r2 : Int) (w : World) (hr0 : Kd.C (Kd.int .u8) w A0 l0.length l0) (hc0 : l0.length ≤ c0) (h : Qdk.f k l0 = some (r1, r2)) :
 Calls Tryz.prog 78 #[.slice A0 l0.length c0] w fun e w'=> ∃ v0_:Value,e= .returned (.tuple #[.agg #[v0_], .int .i64 r2])∧Kd.R (Kd.int .i64) 3 w' w.heap.size (fun _=>True) v0_ r1∧Below w.heap.size w w':=by
 have hu26:=Tryz.underlying26;have hu94:=Tryz.underlying94;have HR0:=Aside0.mk hr0;have HC0:=Aside0.mk hc0;clear hr0 hc0;have HB:=Aside0.mk (Below.refl w.heap.size w);have H:((Q5.f k l0 0 0 10).bind fun bt363=>(some (bt363.1,bt363.2.1)))=some (r1,r2):=h;clear h;obtain ⟨⟨t363,t366,t367,t368⟩,A2,H⟩:=bs H;(try dsimp only at H)
 simp only [Option.some.injEq,Prod.mk.injEq] at H;obtain ⟨rfl,rfl⟩:=H;go_enter Tryz.func78,Tryz.ntmps78;go_wp2_with (first|((with_reducible refine Qc0 (N:=2) rfl ?_);refine Qe3 ?hg (N:=2) ?hd (cs:= #[.slice none 0 0]) (t:=26) ?hr ?_;(case hd=>rfl);(case hg=>rfl);(case hr=>first|(go_simp;done)|(go_simp;rfl));intro gb361 hg w3 hbox hb;have BK361:=Aside0.mk (hbox);have GW361:=Aside0.mk ((by rw [hg];exact (Qp (by repeat (first|(with_reducible first|exact HB.out|apply Qo|apply Qq|apply Qy)|exact HB.out))):w.heap.size≤gb361));have GE361:=GW361;replace HB:=Aside0.mk (Qa (by repeat (first|(with_reducible first|exact HB.out|apply Qo|apply Qq|apply Qy)|exact HB.out)) hb);clear hb hbox hg)|((with_reducible refine Qc0 (N:=7) rfl ?_);refine Qe3 ?hg (N:=7) ?hd (cs:= #[.slice A0 l0.length c0, .int .i64 0, .int .u64 0]) (t:=94) ?hr ?_;(case hd=>rfl);(case hg=>rfl);(case hr=>first|(go_simp;done)|(go_simp;rfl));intro gb362 hg w4 hbox hb;have HI362:=Aside0.mk ((⟨_,_,hbox,(by rw [hg];exact (Qp (by repeat (first|(with_reducible first|exact HB.out|apply Qo|apply Qq|apply Qy|refine Q4 ?_ GE361.out)|exact HB.out))):w.heap.size≤gb362),HR0.out⟩:Qb w _ gb362 l0 0 0));have GW362:=Aside0.mk ((by rw [hg];exact (Qp (by repeat (first|(with_reducible first|exact HB.out|apply Qo|apply Qq|apply Qy|refine Q4 ?_ GE361.out)|exact HB.out))):w.heap.size≤gb362));have GE362:=GW362;replace HB:=Aside0.mk (Qa (by repeat (first|(with_reducible first|exact HB.out|apply Qo|apply Qq|apply Qy|refine Q4 ?_ GE361.out)|exact HB.out)) hb);have NB361_362:=Aside0.mk ((by rw [hg];exact Nat.ne_of_lt (Qcc (g:=gb361) (o:= .cells #[.slice none 0 0] 26 (0,0)) (by (with_reducible repeat (first|refine Qk ?_ _|refine Qj ?_|refine Qi ?_ _));exact BK361.out)):gb361≠gb362));have NB362_361:=Aside0.mk ((by rw [hg];exact Nat.ne_of_gt (Qcc (g:=gb361) (o:= .cells #[.slice none 0 0] 26 (0,0)) (by (with_reducible repeat (first|refine Qk ?_ _|refine Qj ?_|refine Qi ?_ _));exact BK361.out)):gb362≠gb361));replace BK361:=Aside0.mk (Qc (g:=gb361) (o:= .cells #[.slice none 0 0] 26 (0,0)) (by (with_reducible repeat (first|refine Qk ?_ _|refine Qj ?_|refine Qi ?_ _));exact BK361.out) hb);clear hb hbox hg)|((with_reducible refine Qdp (f:=234) rfl ?_);refine Qeu (some 9) rfl rfl Tryz.func234 (by kernel_rfl) rfl #[.pointer (some ⟨gb362,0,none⟩), .int .i64 10] rfl (by (try simp only [List.map_toArray,List.map_cons,List.map_nil]);first|done|rfl|(simp only [List.length_drop,List.length_take];rfl)) ?_;(with_reducible refine (Q5.calls k gb362 l0 0 0 10 t363 t366 t367 t368 w _ ?side1 ?side2 A2.out).mono ?_);(case side1=>repeat (first|(with_reducible first|exact HI362.out|apply Qb.alloc|apply Qb.drewN|apply Qb.drew|apply Qb.set_1|apply Qb.set_2|refine Qb.far ?_ NB362_361.out _)|exact HI362.out));(case side2=>repeat (first|(with_reducible first|exact HB.out|apply Qo|apply Qq|apply Qy|refine Q4 ?_ (Qb.ge HI362.out)|refine Q4 ?_ GE361.out)|exact HB.out));rintro e w5 ⟨v364,rfl,ho0,hi,hb,hk⟩;refine ⟨_,rfl,?_⟩;replace BK361:=Aside0.mk (Qg.blk hk (g':=gb361) (o:= .cells #[.slice none 0 0] 26 (0,0)) (by (with_reducible repeat (first|refine Qk ?_ _|refine Qj ?_|refine Qi ?_ _));exact BK361.out) NB361_362.out (by simp));have HO365:=Aside0.mk (Kd.R_lower ho0 (Qp (by repeat (first|(with_reducible first|exact HB.out|apply Qo|apply Qq|apply Qy|refine Q4 ?_ (Qb.ge HI362.out)|refine Q4 ?_ GE361.out)|exact HB.out))));replace HB:=Aside0.mk (hb);replace HI362:=Aside0.mk (hi);(try clear hb);(try clear hb2);(try clear hk);(try clear hi);(try clear ho0);obtain ⟨Ao6,co6,eo6⟩:=Kd.R_slice HO365.out;subst eo6;have hnb7:=NB361_362.out;have hnc7:=NB362_361.out;have hcz8_0:w5.cell? ⟨gb361,0,none⟩=some (.slice none 0 0):=(Qci BK361.out 0).trans rfl;have hfz8_0:=Qf BK361.out 0));refine bodyPost_ret (Qd7 rfl _ _ gb361 26 #[.slice Ao6 t363.length co6] (0,0) _ rfl (by (with_reducible repeat (first|refine Qk ?_ _|refine Qj ?_|refine Qi ?_ _));refine Qcs (cs:= #[.slice none 0 0]) ?_ 0 _ rfl;(with_reducible repeat (first|refine Qk ?_ _|refine Qj ?_|refine Qi ?_ _));exact BK361.out) Tryz.underlying26 rfl (by kernel_rfl)) rfl ?_;exact ⟨_,by first|rfl|(simp [Qd,Qe] <;>rfl)|(simp [*,Qd,Qe] <;>rfl),by (with_reducible repeat (first|apply Kd.R_alloc|apply Kd.R_drewN|apply Kd.R_drew));exact Kd.R_mono (Kd.R_far (p:=⟨gb361,0,none⟩) (Kd.R_types HO365.out BK361.out (by decide)) (fun _ hk=>hk.2) (.slice Ao6 t363.length co6)) (fun _ hk=>trivial),(Qb.vB HB)⟩
def Qc8.f (k : Nat) (l0 : List Int) : Option (List Int × Int) := (Qdk.f k l0).bind fun bt370 => (some (bt370.1, bt370.2))
theorem Qc8.mono : ∀ a0 k, LeO (Qc8.f k a0) (Qc8.f (k + 1) a0) := by
 intro a0 k;unfold Qc8.f
 repeat' (with_reducible first|apply Qdk.mono|exact LeO.refl _|exact LeO.none _|refine LeO.ite ?_ ?_|refine LeO.bind ?_ (fun _=> ?_))
set_option maxHeartbeats 8000000 in
set_option maxRecDepth 100000 in
theorem Qc8.calls (k : Nat) (A0 : Option Addr) (c0 : Nat) (l0 : List Int) (r1 : List Int) (r2 : Int) (w : World) (hr0 : Kd.C (Kd.int .u8) w A0 l0.length l0) (hc0 : l0.length ≤ c0) (h : Qc8.f k l0 = some (r1, r2)) :
 Calls Tryz.prog 11 #[.slice A0 l0.length c0] w fun e w'=> ∃ v0_:Value,e= .returned (.tuple #[.agg #[v0_], .int .i64 r2])∧Kd.R (Kd.int .i64) 3 w' w.heap.size (fun _=>True) v0_ r1∧Below w.heap.size w w':=by
 have hu26:=Tryz.underlying26;have HR0:=Aside0.mk hr0;have HC0:=Aside0.mk hc0;clear hr0 hc0;have HB:=Aside0.mk (Below.refl w.heap.size w);have H:((Qdk.f k l0).bind fun bt370=>(some (bt370.1,bt370.2)))=some (r1,r2):=h;clear h;obtain ⟨⟨t370,t373⟩,A2,H⟩:=bs H;(try dsimp only at H)
 simp only [Option.some.injEq,Prod.mk.injEq] at H;obtain ⟨rfl,rfl⟩:=H;go_enter Tryz.func11,Tryz.ntmps11;go_wp2_with (first|(refine bE (N:=2) (cs:= #[.slice none 0 0]) (t:=26) ?_;intro gb369 hg w3 hbox hb;have BK369:=Aside0.mk (hbox);have GW369:=Aside0.mk ((gV hg (uB HB)));have GE369:=GW369;replace HB:=Aside0.mk (Qa (uB HB) hb);clear hb hbox hg)|(refine gA (some 5) Tryz.func78 #[.slice A0 l0.length c0] ?_;(with_reducible refine (Qdk.calls k _ _ l0 t370 t373 _ (uD HR0 HB) HC0.out A2.out).mono ?_);rintro e w4 ⟨v371,rfl,ho0,hb⟩;refine ⟨_,rfl,?_⟩;have HO372:=Aside0.mk (Kd.R_lower ho0 (Qp (uB HB)));replace BK369:=Aside0.mk (Qc (uK BK369) hb);replace HB:=Aside0.mk (Qa (uB HB) hb);(try clear hb ho0);obtain ⟨Ao5,co5,eo5⟩:=Kd.R_slice HO372.out;subst eo5;have hcz6_0:=bC BK369;have hfz6_0:=Qf BK369.out 0));refine bodyPost_ret (Qd7 rfl _ _ gb369 26 #[.slice Ao5 t370.length co5] (0,0) _ rfl (by (with_reducible repeat (first|refine Qk ?_ _|refine Qj ?_|refine Qi ?_ _));refine Qcs (cs:= #[.slice none 0 0]) ?_ 0 _ rfl;(with_reducible repeat (first|refine Qk ?_ _|refine Qj ?_|refine Qi ?_ _));exact BK369.out) Tryz.underlying26 rfl (by kernel_rfl)) rfl ?_;exact ⟨_,by first|rfl|(simp [Qd,Qe] <;>rfl)|(simp [*,Qd,Qe] <;>rfl),by (with_reducible repeat (first|apply Kd.R_alloc|apply Kd.R_drewN|apply Kd.R_drew));exact Kd.R_mono (Kd.R_far (p:=⟨gb369,0,none⟩) (Kd.R_types HO372.out BK369.out (by decide)) (fun _ hk=>hk.2) (.slice Ao5 t370.length co5)) (fun _ hk=>trivial),(vB HB)⟩
end Go.Proofs.YtkgngggppcmpfaaGreat.L
end
section
namespace Go.Proofs.YtkgngggppcmpfaaGreat.L
open Go.RowKit Go.Proofs.YtkgngggppcmpfaaGreatW.PrintWords Go.Proofs.YtkgngggppcmpfaaGreatW.PrintLast Go.Proofs.YtkgngggppcmpfaaGreatW.PrintMore
attribute [local go_sem] Qt Qv Q2 Q3 Qm Qn Qu Qw
set_option linter.unusedVariables false
set_option linter.unusedSimpArgs false
def Qc9.f (a0 : Int) (a1 : Int) (a2 : Int) : Option (Bool) := if a1 ≤ a0 then (some (decide (a0 ≤ a2))) else (some false)
set_option maxHeartbeats 8000000 in
set_option maxRecDepth 100000 in
theorem Qc9.calls (a0 : Int) (a1 : Int) (a2 : Int) (r : Bool) (w : World) (h : Qc9.f a0 a1 a2 = some r) :
 Calls Tryz.prog 159 #[.int .i64 a0, .int .i64 a1, .int .i64 a2] w fun e w'=>e= .returned (.bool r)∧Drawn0 w w':=by
 have H:(if a1≤a0 then (some (decide (a0≤a2))) else (some false))=some r:=h;clear h
 by_cases c4:a1≤a0
 ·
  rw [if_pos c4] at H;have c4b0:=decide_eq_true c4;clear c4;obtain rfl:=Option.some.inj H;go_enter Tryz.func159,Tryz.ntmps159;go_wp2
  go_ret
  exact ⟨by first|rfl|(simp;done)|(simp [*];done),by repeat (first|exact Drawn0.refl _|apply Drawn0.step)⟩
 ·
  rw [if_neg c4] at H;have c4b0:=decide_eq_false c4;clear c4;obtain rfl:=Option.some.inj H;go_enter Tryz.func159,Tryz.ntmps159;go_wp2
  go_ret
  exact ⟨by first|rfl|(simp;done)|(simp [*];done),by repeat (first|exact Drawn0.refl _|apply Drawn0.step)⟩
end Go.Proofs.YtkgngggppcmpfaaGreat.L
end
section
namespace Go.Proofs.YtkgngggppcmpfaaGreat.L
open Go.RowKit Go.Proofs.YtkgngggppcmpfaaGreatW.PrintWords Go.Proofs.YtkgngggppcmpfaaGreatW.PrintLast Go.Proofs.YtkgngggppcmpfaaGreatW.PrintMore Go.Proofs.YtkgngggppcmpfaaGreat.X
attribute [local go_sem] Qt Qv Q2 Q3 Qm Qn Qu Qw
set_option linter.unusedVariables false
set_option linter.unusedSimpArgs false
def Qcx.f (l0_0 : List Int) : Option (Int) := some (l0_0.length : Int)
set_option maxHeartbeats 8000000 in
set_option maxRecDepth 100000 in
theorem Qcx.calls (A0_0 : Option Addr) (c0_0 : Nat) (l0_0 : List Int) (r : Int) (w : World) (hr0_0 : Kd.C (Kd.int .i64) w A0_0 l0_0.length l0_0) (hc0_0 : l0_0.length ≤ c0_0) (h : Qcx.f l0_0 = some r) :
 Calls Tryz.prog 244 #[.agg #[.slice A0_0 l0_0.length c0_0]] w fun e w'=>e= .returned (.int .i64 r)∧Below w.heap.size w w':=by
 have hu26:=Tryz.underlying26;have HR0_0:=Aside0.mk hr0_0;have HC0_0:=Aside0.mk hc0_0;clear hr0_0 hc0_0;have HB:=Aside0.mk (Below.refl w.heap.size w);have H:(some (l0_0.length:Int))=some r:=h;clear h;obtain rfl:=Option.some.inj H;go_enter Tryz.func244,Tryz.ntmps244;go_wp2_with (first|(refine bE (N:=1) (cs:= #[.slice A0_0 l0_0.length c0_0]) (t:=26) ?_;intro gb374 hg w2 hbox hb;have BK374:=Aside0.mk (hbox);have GW374:=Aside0.mk ((gV hg (uB HB)));have GE374:=GW374;replace HB:=Aside0.mk (Qa (uB HB) hb);clear hb hbox hg;have hcz3_0:=bC BK374;have hfz3_0:=Qf BK374.out 0))
 go_ret
 exact ⟨by first|rfl|(simp [Qd,Qe] <;>rfl)|(simp [*,Qd,Qe] <;>rfl),uB HB⟩
end Go.Proofs.YtkgngggppcmpfaaGreat.L
end
section
namespace Go.Proofs.YtkgngggppcmpfaaGreat.L
open Go.RowKit Go.Proofs.YtkgngggppcmpfaaGreatW.PrintWords Go.Proofs.YtkgngggppcmpfaaGreatW.PrintLast Go.Proofs.YtkgngggppcmpfaaGreatW.PrintMore
attribute [local go_sem] Qt Qv Q2 Q3 Qm Qn Qu Qw
set_option linter.unusedVariables false
set_option linter.unusedSimpArgs false
def Qel.f (a0 : Int) (a1 : Int) : Option (Bool) := if 0 ≤ a1 then (some ((Go.bits .and .i64 (shr .i64 a0 a1) 1) == 1)) else (none)
set_option maxHeartbeats 8000000 in
set_option maxRecDepth 100000 in
theorem Qel.calls (a0 : Int) (a1 : Int) (r : Bool) (w : World) (h : Qel.f a0 a1 = some r) :
 Calls Tryz.prog 294 #[.int .i64 a0, .int .i64 a1] w fun e w'=>e= .returned (.bool r)∧Drawn0 w w':=by
 have H:(if 0≤a1 then (some ((Go.bits .and .i64 (shr .i64 a0 a1) 1)==1)) else (none))=some r:=h;clear h
 by_cases c3:0≤a1
 ·
  rw [if_pos c3] at H;have c3b0:=eq_true c3;have c3b1:=decide_eq_true c3;clear c3;obtain ⟨ji4,hji4⟩: ∃ j_:Int,(shr .i64 a0 a1)=j_:=⟨_,rfl⟩
  replace H:(some ((Go.bits .and .i64 (ji4) 1)==1))=some r:=by first|(rw [hji4] at H;exact H)|(simp only [hji4] at H ⊢;exact H)
  have hji4_:(a0 / 2 ^ min a1.toNat 64)=ji4:=hji4;have hji4z:a1≤64→(a0 / 2 ^ a1.toNat)=ji4:=Qjy hji4;obtain rfl:=Option.some.inj H;go_enter Tryz.func294,Tryz.ntmps294;go_wp2
  go_ret
  exact ⟨by first|rfl|(simp;done)|(simp only [←hji4] <;>(first|rfl|simp))|(simp [*];done),by repeat (first|exact Drawn0.refl _|apply Drawn0.step)⟩
 ·
  rw [if_neg c3] at H;exact absurd H (by simp)
end Go.Proofs.YtkgngggppcmpfaaGreat.L
end
section
namespace Go.Proofs.YtkgngggppcmpfaaGreat.L
open Go.RowKit Go.Proofs.YtkgngggppcmpfaaGreatW.PrintWords Go.Proofs.YtkgngggppcmpfaaGreatW.PrintLast Go.Proofs.YtkgngggppcmpfaaGreatW.PrintMore Go.Proofs.YtkgngggppcmpfaaGreat.X
attribute [local go_sem] Qt Qv Q2 Q3 Qm Qn Qu Qw
set_option linter.unusedVariables false
set_option linter.unusedSimpArgs false
def Qbn.l0 : Nat → Int → List Int → Int → Option (List Int)
 |0,_,_,_=>none
 |k+1,x0,x3,x6=>if x6<10 then ((Qel.f x0 x6).bind fun t378=>(if t378=true then (if x3.length<17592186044416 then (Qbn.l0 k x0 (x3++ [x6]) (wrap64 (x6+1))) else (none)) else (Qbn.l0 k x0 x3 (wrap64 (x6+1))))) else (some x3)
def Qbn.f (k : Nat) (a0 : Int) : Option (List Int) := Qbn.l0 k a0 (([] : List Int)) 0
theorem Qbn.mono_l : ∀ k, (∀ y0 y1 y2, LeO (Qbn.l0 k y0 y1 y2) (Qbn.l0 (k + 1) y0 y1 y2))
 |0=>fun _ _ _ r h=>by simp [Qbn.l0] at h
 |k+1=>by
  have ih0:=Qbn.mono_l k
  ·
   intro y0 y1 y2;unfold Qbn.l0
   repeat' first
   |(with_reducible exact ih0 _ _ _)
   |(with_reducible exact LeO.refl _)
   |(with_reducible exact LeO.none _)
   |(with_reducible refine LeO.ite ?_ ?_)
   |(with_reducible refine LeO.bind ?_ (fun _=> ?_))
   |exact ih0 _ _ _
   |exact LeO.none _
   |refine LeO.ite ?_ ?_
   |refine LeO.bind ?_ (fun _=> ?_)
theorem Qbn.mono : ∀ a0 k, LeO (Qbn.f k a0) (Qbn.f (k + 1) a0) := by
 intro a0 k;have ih0:=Qbn.mono_l k;unfold Qbn.f
 repeat' (with_reducible first|apply ih0|exact LeO.refl _|exact LeO.none _|refine LeO.ite ?_ ?_|refine LeO.bind ?_ (fun _=> ?_))
set_option maxHeartbeats 8000000 in
set_option maxRecDepth 100000 in
theorem Qbn.calls (k : Nat) (a0 : Int) (r : List Int) (w : World) (h : Qbn.f k a0 = some r) :
 Calls Tryz.prog 277 #[.int .i64 a0] w fun e w'=> ∃ v0_:Value,e= .returned (v0_)∧Kd.R (Kd.int .i64) 3 w' w.heap.size (fun _=>True) v0_ r∧Below w.heap.size w w':=by
 have HB:=Aside0.mk (Below.refl w.heap.size w);have H:(Qbn.l0 k a0 (([] :List Int)) 0)=some r:=h;clear h;obtain ⟨y375,hy375⟩: ∃ y_:List Int,y_=(([] :List Int)):=⟨_,rfl⟩
 replace H:(Qbn.l0 k a0 y375 0)=some r:=by first|(rw [hy375];with_reducible exact H)|(have H2_:=(Option.bind_some _ _).symm.trans H;rw [hy375];with_reducible exact H2_)|(have H2_:=(Option.bind_some _ _).symm.trans H;with_reducible exact H2_)|with_reducible exact H|(rw [hy375];exact H)|exact H
 have Ny375:=Aside0.mk hy375;clear hy375;have H':=Aside0.mk H;clear H;go_enter Tryz.func277,Tryz.ntmps277;go_wp2_with (first|((with_reducible refine Qc0 (N:=5) rfl ?_);refine Kd.R_lit (Kd.int .i64) _ 3 ?hg (N:=5) ?hd (xs:=([] :List Int)) (inner:= []) (ok:=fun _=>True) (okp:=fun _=>True) ?hr ?hp (fun _ hk=>hk) trivial (Below.refl _ _) (Nat.le_refl _) (by simp) ?_;(case hd=>rfl);(case hg=>rfl);(case hr=>first|(go_simp;done)|(go_simp;rfl));(case hp=>exact (Reps.none _ _));intro v376 w2 ho3 hb hg_ hnew_;clear hg_ hnew_;(first|rw [←Ny375.out] at ho3|(simp only [Int.reduceToNat] at ho3;rw [←Ny375.out] at ho3));have HO377:=Aside0.mk (Kd.R_lower ho3 (Qp (uB HB)));replace HB:=Aside0.mk (Qa (uB HB) hb);clear hb ho3))
 go_loopg [3,6] k (fun kq v3 v6 w'=> ∃ (x3_1:List Int) (x6_1:Int),v6= .int .i64 x6_1∧Aside0 (Qbn.l0 kq a0 x3_1 x6_1=some r)∧Aside0 (kq≤k)∧Aside0 (Kd.R (Kd.int .i64) 3 w' w.heap.size (fun _=>True) v3 x3_1)∧Aside0 (Below w.heap.size w w'))
 case atStart=>exact ⟨(y375),(0),(by first|rfl|(simp;done)|(simp [*];done)),H',⟨Nat.le_refl _⟩,⟨uR HO377⟩,⟨uB HB⟩⟩
 case round=>
  clear H'
  try clear c2
  try clear p2
  obtain ⟨x3_1,x6_1,rfl,HA,HK1,HO_3,HB⟩:=hrel;cases gk with
  |zero=>exact absurd HA.out (by simp [Qbn.l0])
  |succ k1=>
   have H:=HA.out;clear HA;simp only [Qbn.l0] at H
   by_cases c4:x6_1<10
   ·
    rw [if_pos c4] at H;have c4b0:=decide_eq_true c4;clear c4;obtain ⟨t378,A5,H⟩:=bs H;(try dsimp only at H)
    by_cases c6:t378=true
    ·
     subst c6;rw [if_pos rfl] at H
     by_cases c7:x3_1.length<17592186044416
     ·
      rw [if_pos c7] at H;have LMc7:=Aside0.mk c7;clear c7;obtain ⟨y379,hy379⟩: ∃ y_:List Int,y_=(x3_1++ [x6_1]):=⟨_,rfl⟩
      replace H:(Qbn.l0 k1 a0 y379 (wrap64 (x6_1+1)))=some r:=by first|(rw [hy379];with_reducible exact H)|(have H2_:=(Option.bind_some _ _).symm.trans H;rw [hy379];with_reducible exact H2_)|(have H2_:=(Option.bind_some _ _).symm.trans H;with_reducible exact H2_)|with_reducible exact H|(rw [hy379];exact H)|exact H
      have Ny379:=Aside0.mk hy379;clear hy379;have H':=Aside0.mk H;clear H;go_wp2_with (first|(refine gA (some 11) Tryz.func294 #[.int .i64 a0, .int .i64 x6_1] ?_;(with_reducible refine (Qel.calls a0 x6_1 true _ A5.out).mono ?_);rintro e w' ⟨rfl,⟨nd,rfl⟩⟩;refine ⟨_,rfl,?_⟩)|((with_reducible refine Qc4 (b:= .append) (xs:= #[.tmp 12, .tmp 14]) rfl ?_);at_builtin;refine Kd.R_append (Kd.int .i64) (w0:=w) w.heap.size rfl (.tmp 12) (.tmp 14) 24 3 (.int .i64 0) 8 rfl Tryz.underlying24 Qfm rfl (by decide) (by omega) u3 x3_1 x6_1 [.int .i64 x6_1] (fun _=>True) (fun _=>False) rfl rfl ?aP (fun _ hk=>hk.elim) ?aF ?aO ?aB ?aS ?aL ?_;(case aP=>exact rfl);(case aB=>exact (uB HB));(case aF=>exact (fun _ _=>trivial));(case aO=>exact (uR HO_3));(case aS=>exact (Qp (uB HB)));(case aL=>have:=LMc7.out;omega);intro v380 w8 ho hb hg hat;rw [←Ny379.out] at ho;replace HB:=Aside0.mk (hb);have HO381:=Aside0.mk (ho);clear HO_3;clear ho hb hg hat));go_roundg k1
      case measure=>have:=HK1.out;omega
      case rel=>exact ⟨(y379),(wrap64 (x6_1+1)),(by first|rfl|(simp;done)|(simp [*];done)),H',⟨by have:=HK1.out;omega⟩,⟨uR HO381⟩,⟨uB HB⟩⟩
     ·
      rw [if_neg c7] at H;exact absurd H (by simp)
    ·
     replace c6:=Bool.eq_false_iff.mpr c6;subst c6;rw [if_neg (show ¬ (false=true) by decide)] at H;have H':=Aside0.mk H;clear H;go_wp2_with (first|(refine gA (some 11) Tryz.func294 #[.int .i64 a0, .int .i64 x6_1] ?_;(with_reducible refine (Qel.calls a0 x6_1 false _ A5.out).mono ?_);rintro e w' ⟨rfl,⟨nd,rfl⟩⟩;refine ⟨_,rfl,?_⟩));go_roundg k1
     case measure=>have:=HK1.out;omega
     case rel=>exact ⟨(x3_1),(wrap64 (x6_1+1)),(by first|rfl|(simp;done)|(simp [*];done)),H',⟨by have:=HK1.out;omega⟩,⟨uR HO_3⟩,⟨uB HB⟩⟩
   ·
    rw [if_neg c4] at H;have c4b0:=decide_eq_false c4;clear c4;obtain rfl:=Option.some.inj H;go_wp2
    go_ret
    exact ⟨_,by first|rfl|(simp [Qd,Qe] <;>rfl)|(simp [*,Qd,Qe] <;>rfl),uR HO_3,uB HB⟩
mutual
def Qbp.l0 : Nat → List Int → Int → Int → List Int → Option (Bool)
 |0,_,_,_,_=>none
 |k+1,x12,x13,x14,x383000=>if x14<x13 then (if 0≤x14 then (if x14<(x12.length:Int) then ((Qc9.f (rd x12 x14) 0 (wrap64 ((shl .i64 1 x14) - 1))).bind fun t386=>(if t386=true then ((Qbn.f k (rd x12 x14)).bind fun t387=>(Qbp.l1 k (rd x12 x14) x12 x13 x14 t387 (t387.length:Int) 0 x383000)) else (some false))) else (none)) else (none)) else (some true)
def Qbp.l1 : Nat → Int → List Int → Int → Int → List Int → Int → Int → List Int → Option (Bool)
 |0,_,_,_,_,_,_,_,_=>none
 |k+1,x4,x12,x13,x14,x26,x27,x28,x383000=>if x28<x27 then (if 0≤x28 then (if x28<(x26.length:Int) then (if 0≤(rd x26 x28) then (if (rd x26 x28)<(x383000.length:Int) then (if (Go.bits .andNot .i64 (rd x383000 (rd x26 x28)) x4)=0 then (Qbp.l1 k x4 x12 x13 x14 x26 x27 (wrap64 (x28+1)) x383000) else (some false)) else (none)) else (none)) else (none)) else (none)) else (Qbp.l0 k x12 x13 (wrap64 (x14+1)) x383000)
end
def Qbp.f (k : Nat) (l0_0 : List Int) : Option (Bool) := (Qcx.f l0_0).bind fun t383 => ((Qc9.f t383 1 10).bind fun t384 => (if t384 = true then (Qbp.l0 k l0_0 (l0_0.length : Int) 0 l0_0) else (some false)))
theorem Qbp.mono_l : ∀ k, (∀ y0 y1 y2 y3, LeO (Qbp.l0 k y0 y1 y2 y3) (Qbp.l0 (k + 1) y0 y1 y2 y3)) ∧ (∀ y0 y1 y2 y3 y4 y5 y6 y7, LeO (Qbp.l1 k y0 y1 y2 y3 y4 y5 y6 y7) (Qbp.l1 (k + 1) y0 y1 y2 y3 y4 y5 y6 y7))
 |0=>⟨fun _ _ _ _ r h=>by simp [Qbp.l0] at h,fun _ _ _ _ _ _ _ _ r h=>by simp [Qbp.l1] at h⟩
 |k+1=>by
  obtain ⟨ih0,ih1⟩:=Qbp.mono_l k;refine ⟨?_,?_⟩
  all_goals
   intros
   first|unfold Qbp.l0|unfold Qbp.l1
   repeat' (with_reducible first|apply ih0|apply ih1|apply Qbn.mono|exact LeO.refl _|exact LeO.none _|refine LeO.ite ?_ ?_|refine LeO.bind ?_ (fun _=> ?_))
theorem Qbp.mono : ∀ a0 k, LeO (Qbp.f k a0) (Qbp.f (k + 1) a0) := by
 intro a0 k;obtain ⟨ih0,ih1⟩:=Qbp.mono_l k;unfold Qbp.f
 repeat' (with_reducible first|apply ih0|apply ih1|apply Qbn.mono|exact LeO.refl _|exact LeO.none _|refine LeO.ite ?_ ?_|refine LeO.bind ?_ (fun _=> ?_))
set_option maxHeartbeats 8000000 in
set_option maxRecDepth 100000 in
theorem Qbp.calls (k : Nat) (A0_0 : Option Addr) (c0_0 : Nat) (l0_0 : List Int) (r : Bool) (w : World) (hr0_0 : Kd.C (Kd.int .i64) w A0_0 l0_0.length l0_0) (hc0_0 : l0_0.length ≤ c0_0) (h : Qbp.f k l0_0 = some r) :
 Calls Tryz.prog 178 #[.agg #[.slice A0_0 l0_0.length c0_0]] w fun e w'=>e= .returned (.bool r)∧Below w.heap.size w w':=by
 have hu26:=Tryz.underlying26;have HR0_0:=Aside0.mk hr0_0;have HC0_0:=Aside0.mk hc0_0;clear hr0_0 hc0_0;have HB:=Aside0.mk (Below.refl w.heap.size w);have H:((Qcx.f l0_0).bind fun t383=>((Qc9.f t383 1 10).bind fun t384=>(if t384=true then (Qbp.l0 k l0_0 (l0_0.length:Int) 0 l0_0) else (some false))))=some r:=h;clear h;obtain ⟨t383,A2,H⟩:=bs H;(try dsimp only at H)
 obtain ⟨t384,A3,H⟩:=bs H;(try dsimp only at H)
 by_cases c4:t384=true
 ·
  subst c4;rw [if_pos rfl] at H;have H':=Aside0.mk H;clear H;go_enter Tryz.func178,Tryz.ntmps178;go_wp2_with (first|(refine bE (N:=1) (cs:= #[.slice A0_0 l0_0.length c0_0]) (t:=26) ?_;intro gb382 hg w5 hbox hb;have BK382:=Aside0.mk (hbox);have GW382:=Aside0.mk ((gV hg (uB HB)));have GE382:=GW382;replace HB:=Aside0.mk (Qa (uB HB) hb);clear hb hbox hg;have hcz6_0:=bC BK382;have hfz6_0:=Qf BK382.out 0)|(refine gA (some 8) Tryz.func244 #[.agg #[.slice A0_0 l0_0.length c0_0]] ?_;(with_reducible refine (Qcx.calls _ _ l0_0 t383 _ (uD HR0_0 HB) HC0_0.out A2.out).mono ?_);rintro e w7 ⟨rfl,hb⟩;refine ⟨_,rfl,?_⟩;replace BK382:=Aside0.mk (Qc (uK BK382) hb);replace HB:=Aside0.mk (Qa (uB HB) hb);(try clear hb))|(refine gA (some 9) Tryz.func159 #[.int .i64 t383, .int .i64 1, .int .i64 10] ?_;(with_reducible refine (Qc9.calls t383 1 10 true _ A3.out).mono ?_);rintro e w' ⟨rfl,⟨nd,rfl⟩⟩;refine ⟨_,rfl,?_⟩;have hcz8_0:=bC BK382;have hfz8_0:=Qf BK382.out 0))
  go_loopg [14] k (fun kq v14 w'=> ∃ (x14_1:Int),v14= .int .i64 x14_1∧Aside0 (Qbp.l0 kq l0_0 (l0_0.length:Int) x14_1 l0_0=some r)∧Aside0 (kq≤k)∧Aside0 (w'.heap[gb382]? =some (.cells #[(.slice A0_0 l0_0.length c0_0)] 26 (0,0)))∧Aside0 (Below w.heap.size w w'))
  case atStart=>exact ⟨(0),(by first|rfl|(simp;done)|(simp [*];done)),H',⟨Nat.le_refl _⟩,⟨uK BK382⟩,⟨uB HB⟩⟩
  case round=>
   clear H'
   try clear c1
   try clear c2
   try clear p2
   try clear c4
   try clear hcz6_0
   try clear hcz8_0
   try clear hfz6_0
   try clear hfz8_0
   obtain ⟨x14_1,rfl,HA,HK1,BK382,HB⟩:=hrel;cases gk with
   |zero=>exact absurd HA.out (by simp [Qbp.l0])
   |succ k1=>
    have H:=HA.out;clear HA;simp only [Qbp.l0] at H
    by_cases c9:x14_1<(l0_0.length:Int)
    ·
     rw [if_pos c9] at H;have c9b0:=decide_eq_true c9;clear c9
     by_cases c10:0≤x14_1
     ·
      rw [if_pos c10] at H;have c10b0:=decide_eq_true c10;clear c10
      by_cases c11:x14_1<(l0_0.length:Int)
      ·
       rw [if_pos c11] at H;have c11b0:=decide_eq_true c11;clear c11;have c12b0:=eq_true (of_decide_eq_true (by first|(with_reducible assumption)|assumption):0≤x14_1);obtain ⟨ji13,hji13⟩: ∃ j_:Int,(shl .i64 1 x14_1)=j_:=⟨_,rfl⟩
       replace H:((Qc9.f (rd l0_0 x14_1) 0 (wrap64 ((ji13) - 1))).bind fun t386=>(if t386=true then ((Qbn.f k1 (rd l0_0 x14_1)).bind fun t387=>(Qbp.l1 k1 (rd l0_0 x14_1) l0_0 (l0_0.length:Int) x14_1 t387 (t387.length:Int) 0 l0_0)) else (some false)))=some r:=by first|(rw [hji13] at H;exact H)|(simp only [hji13] at H ⊢;exact H)
       have hji13_:(IntKind.i64.wrap (1*2 ^ min x14_1.toNat 64))=ji13:=hji13;have hji13z:x14_1≤64→(IntKind.i64.wrap (1*2 ^ x14_1.toNat))=ji13:=Qd1 hji13;have hji13u:(IntKind.i64.wrap (2 ^ min x14_1.toNat 64))=ji13:=by have h_:=hji13_;rw [Int.one_mul] at h_;exact h_
       have hji13v:x14_1≤64→(IntKind.i64.wrap (2 ^ x14_1.toNat))=ji13:=fun hle_=>by have h_:=hji13z hle_;rw [Int.one_mul] at h_;exact h_
       have hji13y:(wrap64 (1*2 ^ min x14_1.toNat 64))=ji13:=(Qcu _).symm.trans hji13_;have hji13x:x14_1≤64→(wrap64 (1*2 ^ x14_1.toNat))=ji13:=fun h_=>(Qcu _).symm.trans (hji13z h_)
       obtain ⟨t386,A14,H⟩:=bs H;(try dsimp only at H)
       by_cases c15:t386=true
       ·
        subst c15;rw [if_pos rfl] at H;obtain ⟨t387,A16,H⟩:=bs H;(try dsimp only at H)
        have H':=Aside0.mk H;clear H;have p385:0≤(x14_1:Int):=of_decide_eq_true (by first|(with_reducible assumption)|assumption);have q385:x14_1<(l0_0.length:Int):=of_decide_eq_true (by first|(with_reducible assumption)|assumption);obtain ⟨ad385,e385,hx385_0⟩:=Kd.at_int HR0_0.out x14_1 p385 q385;cases e385;replace hx385_0:=(HB.out.cell (World.block_lt_of_cell? w _ hx385_0)).trans hx385_0;replace p385:=eq_true p385;replace q385:=eq_true q385;go_wp2_with (first|((with_reducible refine Qdp (f:=159) rfl ?_);refine Qeu (some 23) rfl rfl Tryz.func159 (by kernel_rfl) rfl #[.int .i64 (rd l0_0 x14_1), .int .i64 0, .int .i64 (wrap64 ((ji13) - 1))] rfl (by (try simp only [List.map_toArray,List.map_cons,List.map_nil]);first|done|(simp only [hji13];rfl)|rfl|(simp only [List.length_drop,List.length_take];rfl)) ?_;(with_reducible refine (Qc9.calls (rd l0_0 x14_1) 0 (wrap64 ((ji13) - 1)) true _ A14.out).mono ?_);rintro e w' ⟨rfl,⟨nd,rfl⟩⟩;refine ⟨_,rfl,?_⟩)|(refine gA (some 26) Tryz.func277 #[.int .i64 (rd l0_0 x14_1)] ?_;(with_reducible refine (Qbn.calls k1 (rd l0_0 x14_1) t387 _ A16.out).mono ?_);rintro e w17 ⟨v388,rfl,ho0,hb⟩;refine ⟨_,rfl,?_⟩;have HO389:=Aside0.mk (Kd.R_lower ho0 (Qp (uB HB)));replace BK382:=Aside0.mk (Qc (uK BK382) hb);replace HB:=Aside0.mk (Qa (uB HB) hb);(try clear hb ho0);obtain ⟨Ao18,co18,eo18⟩:=Kd.R_slice HO389.out;subst eo18))
        go_loopg [28] k1 (fun kq v28 w'=> ∃ (x28_2:Int),v28= .int .i64 x28_2∧Aside0 (Qbp.l1 kq (rd l0_0 x14_1) l0_0 (l0_0.length:Int) x14_1 t387 (t387.length:Int) x28_2 l0_0=some r)∧Aside0 (kq≤k1)∧Aside0 (Kd.R (Kd.int .i64) 3 w' w.heap.size (fun _=>True) (.slice Ao18 t387.length co18) t387)∧Aside0 (w'.heap[gb382]? =some (.cells #[(.slice (some ad385) l0_0.length c0_0)] 26 (0,0)))∧Aside0 (Below w.heap.size w w'))
        case atStart=>exact ⟨(0),(by first|rfl|(simp;done)|(simp [*];done)),H',⟨Nat.le_refl _⟩,⟨uR HO389⟩,⟨uK BK382⟩,⟨uB HB⟩⟩
        case round=>
         clear H'
         try clear c1
         try clear c2
         try clear p2
         try clear p3
         try clear q3
         try clear hx3
         try clear c4
         try clear p6
         try clear c9
         try clear c9b0
         try clear c10
         try clear c10b0
         try clear c11
         try clear c11b0
         try clear c12
         try clear c12b0
         try clear c15
         try clear c17
         try clear hcz6_0
         try clear hcz8_0
         try clear hfz6_0
         try clear hfz8_0
         try clear hx385_0
         try clear p2
         try clear p385
         try clear q385
         obtain ⟨x28_2,rfl,HA,HK2,HO_26,BK382,HB⟩:=hrel;cases gk with
         |zero=>exact absurd HA.out (by simp [Qbp.l1])
         |succ k2=>
          have H:=HA.out;clear HA;simp only [Qbp.l1] at H
          by_cases c19:x28_2<(t387.length:Int)
          ·
           rw [if_pos c19] at H;have c19b0:=decide_eq_true c19;clear c19
           by_cases c20:0≤x28_2
           ·
            rw [if_pos c20] at H;have c20b0:=decide_eq_true c20;clear c20
            by_cases c21:x28_2<(t387.length:Int)
            ·
             rw [if_pos c21] at H;have c21b0:=decide_eq_true c21;clear c21
             by_cases c22:0≤(rd t387 x28_2)
             ·
              rw [if_pos c22] at H;have c22b0:=decide_eq_true c22;clear c22
              by_cases c23:(rd t387 x28_2)<(l0_0.length:Int)
              ·
               rw [if_pos c23] at H;have c23b0:=decide_eq_true c23;clear c23
               by_cases c24:(Go.bits .andNot .i64 (rd l0_0 (rd t387 x28_2)) (rd l0_0 x14_1))=0
               ·
                rw [if_pos c24] at H;have c24b0:((Go.bits .andNot .i64 (rd l0_0 (rd t387 x28_2)) (rd l0_0 x14_1))==0)=true:=beq_iff_eq.mpr c24;have c24b1:((Go.bits .andNot .i64 (rd l0_0 (rd t387 x28_2)) (rd l0_0 x14_1)) !=0)=false:=bne_eq_false_iff_eq.mpr c24;clear c24;have H':=Aside0.mk H;clear H;have p390:0≤(x28_2:Int):=of_decide_eq_true (by first|(with_reducible assumption)|assumption);have q390:x28_2<(t387.length:Int):=of_decide_eq_true (by first|(with_reducible assumption)|assumption);obtain ⟨ad390,e390,hx390_0⟩:=Kd.at_int (Kd.R_reads' HO_26.out).2.2 x28_2 p390 q390;cases e390;replace p390:=eq_true p390;replace q390:=eq_true q390;have hcz25_0:=bC BK382;have hfz25_0:=Qf BK382.out 0;have p391:0≤((rd t387 x28_2):Int):=of_decide_eq_true (by first|(with_reducible assumption)|assumption);have q391:(rd t387 x28_2)<(l0_0.length:Int):=of_decide_eq_true (by first|(with_reducible assumption)|assumption);obtain ⟨ad391,e391,hx391_0⟩:=Kd.at_int HR0_0.out (rd t387 x28_2) p391 q391;obtain rfl:ad385=ad391:=(by injection e391)
                replace hx391_0:=(HB.out.cell (World.block_lt_of_cell? w _ hx391_0)).trans hx391_0;replace p391:=eq_true p391;replace q391:=eq_true q391;go_wp2;go_roundg k2
                case measure=>have:=HK1.out;have:=HK2.out;omega
                case rel=>exact ⟨(wrap64 (x28_2+1)),(by first|rfl|(simp;done)|(simp [*];done)),H',⟨by have:=HK1.out;have:=HK2.out;omega⟩,⟨uR HO_26⟩,⟨uK BK382⟩,⟨uB HB⟩⟩
               ·
                rw [if_neg c24] at H;have c24b0:((Go.bits .andNot .i64 (rd l0_0 (rd t387 x28_2)) (rd l0_0 x14_1))==0)=false:=beq_eq_false_iff_ne.mpr c24;have c24b1:((Go.bits .andNot .i64 (rd l0_0 (rd t387 x28_2)) (rd l0_0 x14_1)) !=0)=true:=bne_iff_ne.mpr c24;obtain rfl:=Option.some.inj H;have p390:0≤(x28_2:Int):=of_decide_eq_true (by first|(with_reducible assumption)|assumption);have q390:x28_2<(t387.length:Int):=of_decide_eq_true (by first|(with_reducible assumption)|assumption);obtain ⟨ad390,e390,hx390_0⟩:=Kd.at_int (Kd.R_reads' HO_26.out).2.2 x28_2 p390 q390;cases e390;replace p390:=eq_true p390;replace q390:=eq_true q390;have hcz26_0:=bC BK382;have hfz26_0:=Qf BK382.out 0;have p391:0≤((rd t387 x28_2):Int):=of_decide_eq_true (by first|(with_reducible assumption)|assumption);have q391:(rd t387 x28_2)<(l0_0.length:Int):=of_decide_eq_true (by first|(with_reducible assumption)|assumption);obtain ⟨ad391,e391,hx391_0⟩:=Kd.at_int HR0_0.out (rd t387 x28_2) p391 q391;obtain rfl:ad385=ad391:=(by injection e391)
                replace hx391_0:=(HB.out.cell (World.block_lt_of_cell? w _ hx391_0)).trans hx391_0;replace p391:=eq_true p391;replace q391:=eq_true q391;go_wp2
                go_ret
                exact ⟨by first|rfl|(simp [Qd,Qe] <;>rfl)|(simp only [←hji13];first|rfl|(simp [Qd,Qe] <;>rfl))|(simp [*,Qd,Qe] <;>rfl),uB HB⟩
              ·
               rw [if_neg c23] at H;exact absurd H (by simp)
             ·
              rw [if_neg c22] at H;exact absurd H (by simp)
            ·
             rw [if_neg c21] at H;exact absurd H (by simp)
           ·
            rw [if_neg c20] at H;exact absurd H (by simp)
          ·
           rw [if_neg c19] at H;have c19b0:=decide_eq_false c19;clear c19;have H':=Aside0.mk H;clear H;go_wp2;go_roundg k2
           case measure=>have:=HK1.out;have:=HK2.out;omega
           case rel=>exact ⟨(wrap64 (x14_1+1)),(by first|rfl|(simp;done)|(simp [*];done)),H',⟨by have:=HK1.out;have:=HK2.out;omega⟩,⟨uK BK382⟩,⟨uB HB⟩⟩
       ·
        replace c15:=Bool.eq_false_iff.mpr c15;subst c15;rw [if_neg (show ¬ (false=true) by decide)] at H;obtain rfl:=Option.some.inj H;have p385:0≤(x14_1:Int):=of_decide_eq_true (by first|(with_reducible assumption)|assumption);have q385:x14_1<(l0_0.length:Int):=of_decide_eq_true (by first|(with_reducible assumption)|assumption);obtain ⟨ad385,e385,hx385_0⟩:=Kd.at_int HR0_0.out x14_1 p385 q385;cases e385;replace hx385_0:=(HB.out.cell (World.block_lt_of_cell? w _ hx385_0)).trans hx385_0;replace p385:=eq_true p385;replace q385:=eq_true q385;go_wp2_with (first|((with_reducible refine Qdp (f:=159) rfl ?_);refine Qeu (some 23) rfl rfl Tryz.func159 (by kernel_rfl) rfl #[.int .i64 (rd l0_0 x14_1), .int .i64 0, .int .i64 (wrap64 ((ji13) - 1))] rfl (by (try simp only [List.map_toArray,List.map_cons,List.map_nil]);first|done|(simp only [hji13];rfl)|rfl|(simp only [List.length_drop,List.length_take];rfl)) ?_;(with_reducible refine (Qc9.calls (rd l0_0 x14_1) 0 (wrap64 ((ji13) - 1)) false _ A14.out).mono ?_);rintro e w' ⟨rfl,⟨nd,rfl⟩⟩;refine ⟨_,rfl,?_⟩))
        go_ret
        exact ⟨by first|rfl|(simp [Qd,Qe] <;>rfl)|(simp only [←hji13];first|rfl|(simp [Qd,Qe] <;>rfl))|(simp [*,Qd,Qe] <;>rfl),uB HB⟩
      ·
       rw [if_neg c11] at H;exact absurd H (by simp)
     ·
      rw [if_neg c10] at H;exact absurd H (by simp)
    ·
     rw [if_neg c9] at H;have c9b0:=decide_eq_false c9;clear c9;obtain rfl:=Option.some.inj H;go_wp2
     go_ret
     exact ⟨by first|rfl|(simp [Qd,Qe] <;>rfl)|(simp [*,Qd,Qe] <;>rfl),uB HB⟩
 ·
  replace c4:=Bool.eq_false_iff.mpr c4;subst c4;rw [if_neg (show ¬ (false=true) by decide)] at H;obtain rfl:=Option.some.inj H;go_enter Tryz.func178,Tryz.ntmps178;go_wp2_with (first|(refine bE (N:=1) (cs:= #[.slice A0_0 l0_0.length c0_0]) (t:=26) ?_;intro gb382 hg w27 hbox hb;have BK382:=Aside0.mk (hbox);have GW382:=Aside0.mk ((gV hg (uB HB)));have GE382:=GW382;replace HB:=Aside0.mk (Qa (uB HB) hb);clear hb hbox hg;have hcz28_0:=bC BK382;have hfz28_0:=Qf BK382.out 0)|(refine gA (some 8) Tryz.func244 #[.agg #[.slice A0_0 l0_0.length c0_0]] ?_;(with_reducible refine (Qcx.calls _ _ l0_0 t383 _ (uD HR0_0 HB) HC0_0.out A2.out).mono ?_);rintro e w29 ⟨rfl,hb⟩;refine ⟨_,rfl,?_⟩;replace BK382:=Aside0.mk (Qc (uK BK382) hb);replace HB:=Aside0.mk (Qa (uB HB) hb);(try clear hb))|(refine gA (some 9) Tryz.func159 #[.int .i64 t383, .int .i64 1, .int .i64 10] ?_;(with_reducible refine (Qc9.calls t383 1 10 false _ A3.out).mono ?_);rintro e w' ⟨rfl,⟨nd,rfl⟩⟩;refine ⟨_,rfl,?_⟩))
  go_ret
  exact ⟨by first|rfl|(simp [Qd,Qe] <;>rfl)|(simp [*,Qd,Qe] <;>rfl),uB HB⟩
end Go.Proofs.YtkgngggppcmpfaaGreat.L
end
