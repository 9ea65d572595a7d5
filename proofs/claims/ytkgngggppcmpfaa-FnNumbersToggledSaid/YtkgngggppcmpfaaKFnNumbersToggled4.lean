/- Laws about the given program: the law FnNumbersToggled answers true for every input that its row lets in; no condition is added to the given statement. Contracts of the Go functions that it reaches, and the plain proof over lists. -/
import Derived.Test.YtkgngggppcmpfaaWFnNumbersToggled0
import Derived.Test.YtkgngggppcmpfaaKFnNumbersToggled0
import Derived.Test.YtkgngggppcmpfaaKFnNumbersToggled1
import Derived.Test.YtkgngggppcmpfaaKFnNumbersToggled2
import Derived.Test.YtkgngggppcmpfaaKFnNumbersToggled3
section
namespace Go.Proofs.Ytkgngggppcmpfaa.L
open Go.RowKit Go.Proofs.YtkgngggppcmpfaaW.PrintWords Go.Proofs.YtkgngggppcmpfaaW.PrintLast Go.Proofs.YtkgngggppcmpfaaW.PrintMore
attribute [local go_sem] max2_int min2_int max_two min_two max_three min_three max_four min_four
set_option linter.unusedVariables false
set_option linter.unusedSimpArgs false
def spec_DrawToggleNumber.f (k : Nat) (l0 : List Int) : Option (List Int × List Int × Int × Int) := (spec_l1Cur_array.f k l0 0 0 10).bind fun bt384 => ((spec_l1Cur_pick.f l0 bt384.2.2.2.1 bt384.2.2.2.2 (wrap64 ((bt384.1.length : Int) + 2))).bind fun bt394 => ((spec_l1Cur_pick.f l0 bt394.2.1 bt394.2.2 2).bind fun bt397 => (some (bt384.1, bt384.2.1, bt384.2.2.1, wrap64 (bt394.1 - bt397.1)))))
theorem spec_DrawToggleNumber.mono : ∀ a0 k, LeO (spec_DrawToggleNumber.f k a0) (spec_DrawToggleNumber.f (k + 1) a0) := by
 intro a0 k;unfold spec_DrawToggleNumber.f
 repeat' first
  |(with_reducible exact spec_l1Cur_array.mono _ _ _ _ _)
  |(with_reducible exact LeO.refl _)
  |(with_reducible exact LeO.none _)
  |(with_reducible refine LeO.ite ?_ ?_)
  |(with_reducible refine LeO.bind ?_ (fun _=> ?_))
  |exact spec_l1Cur_array.mono _ _ _ _ _
  |exact LeO.none _
  |refine LeO.ite ?_ ?_
  |refine LeO.bind ?_ (fun _=> ?_)
def spec_DrawToggleNumber.T3 : Bool × List (List Nat × List Nat) := (true, [([], []), ([], []), ([], []), ([], []), ([], []), ([4], [4]), ([5], [5]), ([6], [6]), ([3, 7], [3, 7]), ([], []), ([9, 8], [9]), ([8, 10], [8, 10]), ([0, 10, 0], [0]), ([1, 12, 0, 1, 12], [1]), ([2, 13, 0, 1, 2, 12, 13], [2]), ([11, 14, 0, 1, 2, 3, 4, 5, 6, 7, 8, 9, 10, 11, 12, 13, 14], [11])])
def spec_DrawToggleNumber.B3 : List Nat := [0, 0, 0, 0, 0, 16, 48, 112, 248, 0, 1016, 2040, 2041, 6139, 14335, 32767]
theorem spec_DrawToggleNumber.tab3 : rtab .any (opsOf Try.f19 3) = spec_DrawToggleNumber.T3 := by kernel_rfl
theorem spec_DrawToggleNumber.bits3 : waitsOk spec_DrawToggleNumber.T3.2 spec_DrawToggleNumber.B3 = true := by kernel_rfl
set_option maxHeartbeats 8000000 in
set_option maxRecDepth 100000 in
theorem spec_DrawToggleNumber.calls (k : Nat) (A0 : Option Addr) (c0 : Nat) (l0 : List Int) (r1 : List Int) (r2 : List Int) (r3 : Int) (r4 : Int) (w : World) (hr0 : Kd.C (Kd.int .u8) w A0 l0.length l0) (hc0 : l0.length ≤ c0) (h : spec_DrawToggleNumber.f k l0 = some (r1, r2, r3, r4)) :
 Calls Try.prog 19 #[.slice A0 l0.length c0] w fun e w'=> ∃ v0_ v1_:Value,e= .returned (.tuple #[.agg #[v0_],v1_, .int .i64 r3, .int .i64 r4])∧Kd.R (Kd.int .i64) 3 w' w.heap.size (fun k_=>some k_≠(v1_:Value).ownBlock) v0_ r1∧Kd.R (Kd.int .i64) 3 w' w.heap.size (fun k_=>some k_≠(v0_:Value).ownBlock) v1_ r2∧Below w.heap.size w w':=by
 have hu26:=Try.underlying26;have hu67:=Try.underlying67;have HR0:=Aside0.mk hr0;have HC0:=Aside0.mk hc0;clear hr0 hc0;have HB:=Aside0.mk (Below.refl w.heap.size w);have H:((spec_l1Cur_array.f k l0 0 0 10).bind fun bt384=>((spec_l1Cur_pick.f l0 bt384.2.2.2.1 bt384.2.2.2.2 (wrap64 ((bt384.1.length:Int)+2))).bind fun bt394=>((spec_l1Cur_pick.f l0 bt394.2.1 bt394.2.2 2).bind fun bt397=>(some (bt384.1,bt384.2.1,bt384.2.2.1,wrap64 (bt394.1 - bt397.1))))))=some (r1,r2,r3,r4):=h;clear h;replace H:=Option.bind_eq_some_iff.mp H;obtain ⟨⟨t384,t387,t390,t391,t392⟩,A20,H⟩:=H;replace H:((spec_l1Cur_pick.f l0 t391 t392 (wrap64 ((t384.length:Int)+2))).bind fun bt394=>((spec_l1Cur_pick.f l0 bt394.2.1 bt394.2.2 2).bind fun bt397=>(some (t384,t387,t390,wrap64 (bt394.1 - bt397.1)))))=some (r1,r2,r3,r4):=H;have A2:=Aside0.mk A20;clear A20;replace H:=Option.bind_eq_some_iff.mp H;obtain ⟨⟨t394,t395,t396⟩,A30,H⟩:=H;replace H:((spec_l1Cur_pick.f l0 t395 t396 2).bind fun bt397=>(some (t384,t387,t390,wrap64 (t394 - bt397.1))))=some (r1,r2,r3,r4):=H;have A3:=Aside0.mk A30;clear A30;replace H:=Option.bind_eq_some_iff.mp H;obtain ⟨⟨t397,t398,t399⟩,A40,H⟩:=H;replace H:(some (t384,t387,t390,wrap64 (t394 - t397)))=some (r1,r2,r3,r4):=H;have A4:=Aside0.mk A40;clear A40;simp only [Option.some.injEq,Prod.mk.injEq] at H;obtain ⟨rfl,rfl,rfl,rfl⟩:=H;go_enter Try.func19,Try.ntmps19
 try go_wp2_with (first|((with_reducible refine gate_dst (N:=2) rfl ?_);refine box_event ?hg (N:=2) ?hd (cs:= #[.slice none 0 0]) (t:=26) ?hr ?_;(case hd=>rfl);(case hg=>rfl);(case hr=>first|(go_simp;done)|(go_simp;rfl));intro gb382 hg w5 hbox hb;have BK382:=Aside0.mk (hbox);have GW382:=Aside0.mk ((by rw [hg];exact (below_size (by repeat (first|(with_reducible first|exact HB.out|apply below_alloc|apply pw_below_drewN|apply below_drew1)|exact HB.out))):w.heap.size≤gb382));have GE382:=GW382;replace HB:=Aside0.mk (below_step (by repeat (first|(with_reducible first|exact HB.out|apply below_alloc|apply pw_below_drewN|apply below_drew1)|exact HB.out)) hb);clear hb hbox hg)|((with_reducible refine gate_dst (N:=12) rfl ?_);refine box_event ?hg (N:=12) ?hd (cs:= #[.slice A0 l0.length c0, .int .i64 0, .int .u64 0]) (t:=67) ?hr ?_;(case hd=>rfl);(case hg=>rfl);(case hr=>first|(go_simp;done)|(go_simp;rfl));intro gb383 hg w6 hbox hb;have HI383:=Aside0.mk ((⟨_,_,hbox,(by rw [hg];exact (below_size (by repeat (first|(with_reducible first|exact HB.out|apply below_alloc|apply pw_below_drewN|apply below_drew1|refine below_set ?_ GE382.out)|exact HB.out))):w.heap.size≤gb383),HR0.out⟩:IsS67 w _ gb383 l0 0 0));have GW383:=Aside0.mk ((by rw [hg];exact (below_size (by repeat (first|(with_reducible first|exact HB.out|apply below_alloc|apply pw_below_drewN|apply below_drew1|refine below_set ?_ GE382.out)|exact HB.out))):w.heap.size≤gb383));have GE383:=GW383;replace HB:=Aside0.mk (below_step (by repeat (first|(with_reducible first|exact HB.out|apply below_alloc|apply pw_below_drewN|apply below_drew1|refine below_set ?_ GE382.out)|exact HB.out)) hb);have NB382_383:=Aside0.mk ((by rw [hg];exact Nat.ne_of_lt (blk_lt (g:=gb382) (o:= .cells #[.slice none 0 0] 26 (0,0)) (by (with_reducible repeat (first|refine blk_drewN ?_ _|refine blk_drew ?_|refine blk_alloc ?_ _));exact BK382.out)):gb382≠gb383));have NB383_382:=Aside0.mk ((by rw [hg];exact Nat.ne_of_gt (blk_lt (g:=gb382) (o:= .cells #[.slice none 0 0] 26 (0,0)) (by (with_reducible repeat (first|refine blk_drewN ?_ _|refine blk_drew ?_|refine blk_alloc ?_ _));exact BK382.out)):gb383≠gb382));replace BK382:=Aside0.mk (blk_below (g:=gb382) (o:= .cells #[.slice none 0 0] 26 (0,0)) (by (with_reducible repeat (first|refine blk_drewN ?_ _|refine blk_drew ?_|refine blk_alloc ?_ _));exact BK382.out) hb);clear hb hbox hg)|((with_reducible refine gate_callee (f:=61) rfl ?_);refine goesL_ (some 15) rfl rfl Try.func61 (by kernel_rfl) rfl #[.pointer (some ⟨gb383,0,none⟩), .int .i64 10] rfl (by (try simp only [List.map_toArray,List.map_cons,List.map_nil]);first|done|rfl|(simp only [List.length_drop,List.length_take];rfl)) ?_;(with_reducible refine (spec_l1Cur_array.calls k gb383 l0 0 0 10 t384 t387 t390 t391 t392 w _ ?side1 ?side2 A2.out).mono ?_);(case side1=>repeat (first|(with_reducible first|exact HI383.out|apply IsS67.alloc|apply IsS67.drewN|apply IsS67.drew|apply IsS67.set_1|apply IsS67.set_2|refine IsS67.far ?_ NB383_382.out _)|exact HI383.out));(case side2=>repeat (first|(with_reducible first|exact HB.out|apply below_alloc|apply pw_below_drewN|apply below_drew1|refine below_set ?_ (IsS67.ge HI383.out)|refine below_set ?_ GE382.out)|exact HB.out));rintro e w7 ⟨v385,v388,rfl,ho0,ho1,hi,hb,hk⟩;refine ⟨_,rfl,?_⟩;replace BK382:=Aside0.mk (KeepBut.blk hk (g':=gb382) (o:= .cells #[.slice none 0 0] 26 (0,0)) (by (with_reducible repeat (first|refine blk_drewN ?_ _|refine blk_drew ?_|refine blk_alloc ?_ _));exact BK382.out) NB382_383.out (by simp));have HO386:=Aside0.mk (Kd.R_lower ho0 (below_size (by repeat (first|(with_reducible first|exact HB.out|apply below_alloc|apply pw_below_drewN|apply below_drew1|refine below_set ?_ (IsS67.ge HI383.out)|refine below_set ?_ GE382.out)|exact HB.out))));have HO389:=Aside0.mk (Kd.R_lower ho1 (below_size (by repeat (first|(with_reducible first|exact HB.out|apply below_alloc|apply pw_below_drewN|apply below_drew1|refine below_set ?_ (IsS67.ge HI383.out)|refine below_set ?_ GE382.out)|exact HB.out))));replace HB:=Aside0.mk (hb);replace HI383:=Aside0.mk (hi);(try clear hb);(try clear hb2);(try clear hk);(try clear hi);(try clear ho0);(try clear ho1))|((with_reducible refine gate_dst (N:=7) rfl ?_);refine box_event ?hg (N:=7) ?hd (cs:= #[.slice none 0 0]) (t:=26) ?hr ?_;(case hd=>rfl);(case hg=>rfl);(case hr=>first|(go_simp;done)|(go_simp;rfl));intro gb393 hg w8 hbox hb;replace HO386:=Aside0.mk (Kd.R_below (by (with_reducible repeat (first|apply Kd.R_alloc|apply Kd.R_drewN|apply Kd.R_drew));exact HO386.out) hb);replace HO389:=Aside0.mk (Kd.R_below (by (with_reducible repeat (first|apply Kd.R_alloc|apply Kd.R_drewN|apply Kd.R_drew));exact HO389.out) hb);have BK393:=Aside0.mk (hbox);have GW393:=Aside0.mk ((by rw [hg];exact (below_size (by repeat (first|(with_reducible first|exact HB.out|apply below_alloc|apply pw_below_drewN|apply below_drew1|refine below_set ?_ (IsS67.ge HI383.out)|refine below_set ?_ GE382.out)|exact HB.out))):w.heap.size≤gb393));have GE393:=GW393;replace HB:=Aside0.mk (below_step (by repeat (first|(with_reducible first|exact HB.out|apply below_alloc|apply pw_below_drewN|apply below_drew1|refine below_set ?_ (IsS67.ge HI383.out)|refine below_set ?_ GE382.out)|exact HB.out)) hb);have NB382_393:=Aside0.mk ((by rw [hg];exact Nat.ne_of_lt (blk_lt (g:=gb382) (o:= .cells #[.slice none 0 0] 26 (0,0)) (by (with_reducible repeat (first|refine blk_drewN ?_ _|refine blk_drew ?_|refine blk_alloc ?_ _));exact BK382.out)):gb382≠gb393));have NB393_382:=Aside0.mk ((by rw [hg];exact Nat.ne_of_gt (blk_lt (g:=gb382) (o:= .cells #[.slice none 0 0] 26 (0,0)) (by (with_reducible repeat (first|refine blk_drewN ?_ _|refine blk_drew ?_|refine blk_alloc ?_ _));exact BK382.out)):gb393≠gb382));replace BK382:=Aside0.mk (blk_below (g:=gb382) (o:= .cells #[.slice none 0 0] 26 (0,0)) (by (with_reducible repeat (first|refine blk_drewN ?_ _|refine blk_drew ?_|refine blk_alloc ?_ _));exact BK382.out) hb);have NB383_393:=Aside0.mk ((by rw [hg];exact Nat.ne_of_lt (IsS67.lt (show IsS67 w _ gb383 l0 t391 t392 from by repeat (first|(with_reducible first|exact HI383.out|apply IsS67.alloc|apply IsS67.drewN|apply IsS67.drew|apply IsS67.set_1|apply IsS67.set_2|refine IsS67.far ?_ NB383_382.out _)|exact HI383.out))):gb383≠gb393));have NB393_383:=Aside0.mk ((by rw [hg];exact Nat.ne_of_gt (IsS67.lt (show IsS67 w _ gb383 l0 t391 t392 from by repeat (first|(with_reducible first|exact HI383.out|apply IsS67.alloc|apply IsS67.drewN|apply IsS67.drew|apply IsS67.set_1|apply IsS67.set_2|refine IsS67.far ?_ NB383_382.out _)|exact HI383.out))):gb393≠gb383));replace HI383:=Aside0.mk (IsS67.below (by repeat (first|(with_reducible first|exact HI383.out|apply IsS67.alloc|apply IsS67.drewN|apply IsS67.drew|apply IsS67.set_1|apply IsS67.set_2|refine IsS67.far ?_ NB383_382.out _)|exact HI383.out)) hb);clear hb hbox hg;obtain ⟨Ao9,co9,eo9⟩:=Kd.R_slice HO386.out;subst eo9;have hnb10:=NB393_382.out;have hnc10:=NB382_393.out;have hnb11:=NB393_383.out;have hnc11:=NB383_393.out;have hcz12_0:w8.cell? ⟨gb393,0,none⟩=some (.slice none 0 0):=(blk_cell BK393.out 0).trans rfl;have hfz12_0:=blk_frozen BK393.out 0))
 have n0_:Aside0 (Kd.R (Kd.int .i64) 3 (w8.setCell ⟨gb393,0,none⟩ (.slice Ao9 t384.length co9)) w.heap.size (fun k_=>some k_≠(v388:Value).ownBlock) (.slice Ao9 t384.length co9) t384):=⟨by (with_reducible repeat (first|apply Kd.R_alloc|apply Kd.R_drewN|apply Kd.R_drew));exact Kd.R_mono (Kd.R_far (p:=⟨gb393,0,none⟩) (Kd.R_types HO386.out BK393.out (by decide)) (fun _ hk=>hk.2) (.slice Ao9 t384.length co9)) (fun _ hk=>hk.1)⟩
 have n1_:Aside0 (Kd.R (Kd.int .i64) 3 (w8.setCell ⟨gb393,0,none⟩ (.slice Ao9 t384.length co9)) w.heap.size (fun k_=>some k_≠(.slice Ao9 t384.length co9:Value).ownBlock) v388 t387):=⟨by (with_reducible repeat (first|apply Kd.R_alloc|apply Kd.R_drewN|apply Kd.R_drew));exact Kd.R_mono (Kd.R_far (p:=⟨gb393,0,none⟩) (Kd.R_types HO389.out BK393.out (by decide)) (fun _ hk=>hk.2) (.slice Ao9 t384.length co9)) (fun _ hk=>hk.1)⟩
 have n2_:Aside0 ((w8.setCell ⟨gb393,0,none⟩ (.slice Ao9 t384.length co9)).heap[gb382]? =some (.cells #[.slice none 0 0] 26 (0,0))):=⟨by (with_reducible repeat (first|refine blk_drewN ?_ _|refine blk_drew ?_|refine blk_alloc ?_ _));refine blk_far ?_ NB382_393.out _;(with_reducible repeat (first|refine blk_drewN ?_ _|refine blk_drew ?_|refine blk_alloc ?_ _));exact BK382.out⟩
 have n3_:Aside0 ((w8.setCell ⟨gb393,0,none⟩ (.slice Ao9 t384.length co9)).heap[gb393]? =some (.cells #[.slice Ao9 t384.length co9] 26 (0,0))):=⟨by (with_reducible repeat (first|refine blk_drewN ?_ _|refine blk_drew ?_|refine blk_alloc ?_ _));refine blk_put (cs:= #[.slice none 0 0]) ?_ 0 _ rfl;(with_reducible repeat (first|refine blk_drewN ?_ _|refine blk_drew ?_|refine blk_alloc ?_ _));exact BK393.out⟩
 have n4_:Aside0 (IsS67 w (w8.setCell ⟨gb393,0,none⟩ (.slice Ao9 t384.length co9)) gb383 l0 t391 t392):=⟨by repeat (first|(with_reducible first|exact HI383.out|apply IsS67.alloc|apply IsS67.drewN|apply IsS67.drew|apply IsS67.set_1|apply IsS67.set_2|refine IsS67.far ?_ NB383_382.out _|refine IsS67.far ?_ NB383_393.out _)|exact HI383.out)⟩
 have n5_:Aside0 (Below w.heap.size w (w8.setCell ⟨gb393,0,none⟩ (.slice Ao9 t384.length co9))):=⟨by repeat (first|(with_reducible first|exact HB.out|apply below_alloc|apply pw_below_drewN|apply below_drew1|refine below_set ?_ (IsS67.ge HI383.out)|refine below_set ?_ GE382.out|refine below_set ?_ GE393.out)|exact HB.out)⟩
 (try clear HO386)
 (try clear HO389)
 (try clear BK382)
 (try clear BK393)
 (try clear HI383)
 (try clear HB)
 generalize (w8.setCell ⟨gb393,0,none⟩ (.slice Ao9 t384.length co9))=w13 at n0_ n1_ n2_ n3_ n4_ n5_ ⊢;have HO386:=n0_;have HO389:=n1_;have BK382:=n2_;have BK393:=n3_;have HI383:=n4_;have HB:=n5_;clear n0_ n1_ n2_ n3_ n4_ n5_;replace HO386:=Aside0.mk (Kd.R_drew HO386.out);replace HO389:=Aside0.mk (Kd.R_drew HO389.out);replace BK382:=Aside0.mk (blk_drew BK382.out);replace BK393:=Aside0.mk (blk_drew BK393.out);replace HI383:=Aside0.mk (IsS67.drew HI383.out);replace HB:=Aside0.mk (below_drew1 HB.out);refine start_ (n:=16) (S:=fun w'=>w'.cell? ⟨gb393,0,none⟩=some (.slice Ao9 t384.length co9)) (ds:= []) #[false,false,false,false,false,false,false,false,false,false,false,false,false,false,false,false] (by kernel_rfl) rfl rfl ((blk_cell BK393.out 0).trans rfl) (fun hHeld=> ?_);refine with_tabW spec_DrawToggleNumber.tab3 spec_DrawToggleNumber.bits3 (fun HT_ HW_=> ?_);generalize w13.drew=w14 at HO386 HO389 BK382 BK393 HI383 HB hHeld ⊢;refine pure_ (i:=1) (N:=some 20) (v:= ?_) (a':= ?_) #[false,true,false,false,false,false,false,false,false,false,false,false,false,false,false,false] rfl rfl (any_of HT_.out (by kernel_rfl)) (fun _ _ _ h=>h) (Or.inl ⟨by rfl,?_⟩) ?_ ?_;rotate_left
 ·
  intro w';go_simp
  with_reducible rfl
 rotate_left
 ·
  simp only [Act.put,List.setIfInBounds_toArray,List.set_cons_zero,List.set_cons_succ,i64_w,i32_w];rfl
 refine pure_ (i:=2) (N:=some 21) (v:= ?_) (a':= ?_) #[false,true,true,false,false,false,false,false,false,false,false,false,false,false,false,false] rfl rfl (any_of HT_.out (by kernel_rfl)) (fun _ _ _ h=>h) (Or.inl ⟨by rfl,?_⟩) ?_ ?_;rotate_left
 ·
  intro w';go_simp
  with_reducible rfl
 rotate_left
 ·
  simp only [Act.put,List.setIfInBounds_toArray,List.set_cons_zero,List.set_cons_succ,i64_w,i32_w];rfl
 refine pure_ (i:=3) (N:=some 22) (v:= ?_) (a':= ?_) #[false,true,true,true,false,false,false,false,false,false,false,false,false,false,false,false] rfl rfl (any_of HT_.out (by kernel_rfl)) (fun _ _ _ h=>h) (Or.inl ⟨by rfl,?_⟩) ?_ ?_;rotate_left
 ·
  intro w';go_simp
  with_reducible rfl
 rotate_left
 ·
  simp only [Act.put,List.setIfInBounds_toArray,List.set_cons_zero,List.set_cons_succ,i64_w,i32_w];rfl
 refine pure_ (i:=4) (N:=some 23) (v:= ?_) (a':= ?_) #[false,true,true,true,true,false,false,false,false,false,false,false,false,false,false,false] rfl rfl (any_of HT_.out (by kernel_rfl)) (fun _ _ _ h=>h) (Or.inl ⟨by rfl,?_⟩) ?_ ?_;rotate_left
 ·
  intro w';go_simp
  with_reducible rfl
 rotate_left
 ·
  simp only [Act.put,List.setIfInBounds_toArray,List.set_cons_zero,List.set_cons_succ,i64_w,i32_w];rfl
 refine pure_ (i:=9) (N:=some 28) (v:= ?_) (a':= ?_) #[false,true,true,true,true,false,false,false,false,true,false,false,false,false,false,false] rfl rfl (any_of HT_.out (by kernel_rfl)) (fun _ _ _ h=>h) (Or.inl ⟨by rfl,?_⟩) ?_ ?_;rotate_left
 ·
  intro w';go_simp
  with_reducible rfl
 rotate_left
 ·
  simp only [Act.put,List.setIfInBounds_toArray,List.set_cons_zero,List.set_cons_succ,i64_w,i32_w];rfl
 refine take_ (i:=0) (N:=some 19) (v:= ?_) (a':= ?_) #[true,true,true,true,true,false,false,false,false,true,false,false,false,false,false,false] rfl rfl (take_ofW HT_.out HW_.out (by kernel_rfl)) (fun _ _ _ h=>h) (Or.inl ⟨by rfl,?_⟩) hHeld ?_ ?_;rotate_left
 ·
  intro w' s0;go_simp
  with_reducible rfl
 rotate_left
 ·
  simp only [Act.put,List.setIfInBounds_toArray,List.set_cons_zero,List.set_cons_succ,i64_w,i32_w];rfl
 refine take_ (i:=5) (N:=some 24) (v:= ?_) (a':= ?_) #[true,true,true,true,true,true,false,false,false,true,false,false,false,false,false,false] rfl rfl (take_ofW HT_.out HW_.out (by kernel_rfl)) (fun _ _ _ h=>h) (Or.inl ⟨by rfl,?_⟩) hHeld ?_ ?_;rotate_left
 ·
  intro w' s0;go_simp
  with_reducible rfl
 rotate_left
 ·
  simp only [Act.put,List.setIfInBounds_toArray,List.set_cons_zero,List.set_cons_succ,i64_w,i32_w];rfl
 refine pure_ (i:=6) (N:=some 25) (v:= ?_) (a':= ?_) #[true,true,true,true,true,true,true,false,false,true,false,false,false,false,false,false] rfl rfl (any_of HT_.out (by kernel_rfl)) (fun _ _ _ h=>h) (Or.inl ⟨by rfl,?_⟩) ?_ ?_;rotate_left
 ·
  intro w';go_simp
  with_reducible rfl
 rotate_left
 ·
  simp only [Act.put,List.setIfInBounds_toArray,List.set_cons_zero,List.set_cons_succ,i64_w,i32_w];rfl
 refine pure_ (i:=7) (N:=some 26) (v:= ?_) (a':= ?_) #[true,true,true,true,true,true,true,true,false,true,false,false,false,false,false,false] rfl rfl (any_of HT_.out (by kernel_rfl)) (fun _ _ _ h=>h) (Or.inl ⟨by rfl,?_⟩) ?_ ?_;rotate_left
 ·
  intro w';go_simp
  with_reducible rfl
 rotate_left
 ·
  simp only [Act.put,List.setIfInBounds_toArray,List.set_cons_zero,List.set_cons_succ,i64_w,i32_w];rfl
 refine one_ (i:=8) (N:=some 27) #[true,true,true,true,true,true,true,true,true,true,false,false,false,false,false,false] rfl rfl (one_of HT_.out (by kernel_rfl)) (by decide) (fun K hK=> ?_);refine goes_ Try.func58 (by kernel_rfl) rfl #[.pointer (some ⟨gb383,0,none⟩), .int .i64 (wrap64 ((t384.length:Int)+2))] (by rfl) rfl rfl (by (try simp only [List.map_toArray,List.map_cons,List.map_nil]);first|done|rfl|(simp only [List.length_drop,List.length_take];rfl)) ?_
 with_reducible refine (spec_l1Cur_pick.calls gb383 l0 t391 t392 (wrap64 ((t384.length:Int)+2)) t394 t395 t396 w _ ?side1 ?side2 A3.out).mono ?_
 (case side1=>repeat (first|(with_reducible first|exact HI383.out|apply IsS67.alloc|apply IsS67.drewN|apply IsS67.drew|apply IsS67.set_1|apply IsS67.set_2|refine IsS67.far ?_ NB383_382.out _|refine IsS67.far ?_ NB383_393.out _)|exact HI383.out))
 (case side2=>repeat (first|(with_reducible first|exact HB.out|apply below_alloc|apply pw_below_drewN|apply below_drew1|refine below_set ?_ (IsS67.ge HI383.out)|refine below_set ?_ GE382.out|refine below_set ?_ GE393.out)|exact HB.out))
 rintro e w15 ⟨rfl,hi,hb,hk⟩;refine ⟨_,rfl,?_⟩;replace BK382:=Aside0.mk (KeepBut.blk hk (g':=gb382) (o:= .cells #[.slice none 0 0] 26 (0,0)) (by (with_reducible repeat (first|refine blk_drewN ?_ _|refine blk_drew ?_|refine blk_alloc ?_ _));exact BK382.out) NB382_383.out (by simp));replace HO386:=Aside0.mk (Kd.R_mono (Kd.R_keep (IsS67.apart (show IsS67 w _ gb383 l0 t391 t392 from by repeat (first|(with_reducible first|exact HI383.out|apply IsS67.alloc|apply IsS67.drewN|apply IsS67.drew|apply IsS67.set_1|apply IsS67.set_2|refine IsS67.far ?_ NB383_382.out _|refine IsS67.far ?_ NB383_393.out _)|exact HI383.out)) (by (with_reducible repeat (first|apply Kd.R_alloc|apply Kd.R_drewN|apply Kd.R_drew));exact HO386.out) (by decide)) hk (fun _ h=>h.2)) (fun _ h=>h.1));replace HO389:=Aside0.mk (Kd.R_mono (Kd.R_keep (IsS67.apart (show IsS67 w _ gb383 l0 t391 t392 from by repeat (first|(with_reducible first|exact HI383.out|apply IsS67.alloc|apply IsS67.drewN|apply IsS67.drew|apply IsS67.set_1|apply IsS67.set_2|refine IsS67.far ?_ NB383_382.out _|refine IsS67.far ?_ NB383_393.out _)|exact HI383.out)) (by (with_reducible repeat (first|apply Kd.R_alloc|apply Kd.R_drewN|apply Kd.R_drew));exact HO389.out) (by decide)) hk (fun _ h=>h.2)) (fun _ h=>h.1));replace BK393:=Aside0.mk (KeepBut.blk hk (g':=gb393) (o:= .cells #[.slice Ao9 t384.length co9] 26 (0,0)) (by (with_reducible repeat (first|refine blk_drewN ?_ _|refine blk_drew ?_|refine blk_alloc ?_ _));exact BK393.out) NB393_383.out (by simp));replace HB:=Aside0.mk (hb);replace HI383:=Aside0.mk (hi)
 (try clear hb)
 (try clear hb2)
 (try clear hk)
 (try clear hi)
 refine hK.out _ _ ((blk_cell BK393.out 0).trans rfl) (fun hHeld=> ?_);clear hK K;refine norm_ (a':= ?_) ?_ ?_;rotate_left
 ·
  show Act.put _ (some 27) _=_
  simp only [Act.put,List.setIfInBounds_toArray,List.set_cons_zero,List.set_cons_succ,i64_w,i32_w];rfl
 refine one_ (i:=10) (N:=some 29) #[true,true,true,true,true,true,true,true,true,true,true,false,false,false,false,false] rfl rfl (one_of HT_.out (by kernel_rfl)) (by decide) (fun K hK=> ?_);refine goes_ Try.func58 (by kernel_rfl) rfl #[.pointer (some ⟨gb383,0,none⟩), .int .i64 2] (by rfl) rfl rfl (by (try simp only [List.map_toArray,List.map_cons,List.map_nil]);first|done|rfl|(simp only [List.length_drop,List.length_take];rfl)) ?_
 with_reducible refine (spec_l1Cur_pick.calls gb383 l0 t395 t396 2 t397 t398 t399 w _ ?side1 ?side2 A4.out).mono ?_
 (case side1=>repeat (first|(with_reducible first|exact HI383.out|apply IsS67.alloc|apply IsS67.drewN|apply IsS67.drew|apply IsS67.set_1|apply IsS67.set_2|refine IsS67.far ?_ NB383_382.out _|refine IsS67.far ?_ NB383_393.out _)|exact HI383.out))
 (case side2=>repeat (first|(with_reducible first|exact HB.out|apply below_alloc|apply pw_below_drewN|apply below_drew1|refine below_set ?_ (IsS67.ge HI383.out)|refine below_set ?_ GE382.out|refine below_set ?_ GE393.out)|exact HB.out))
 rintro e w16 ⟨rfl,hi,hb,hk⟩;refine ⟨_,rfl,?_⟩;replace BK382:=Aside0.mk (KeepBut.blk hk (g':=gb382) (o:= .cells #[.slice none 0 0] 26 (0,0)) (by (with_reducible repeat (first|refine blk_drewN ?_ _|refine blk_drew ?_|refine blk_alloc ?_ _));exact BK382.out) NB382_383.out (by simp));replace HO386:=Aside0.mk (Kd.R_mono (Kd.R_keep (IsS67.apart (show IsS67 w _ gb383 l0 t395 t396 from by repeat (first|(with_reducible first|exact HI383.out|apply IsS67.alloc|apply IsS67.drewN|apply IsS67.drew|apply IsS67.set_1|apply IsS67.set_2|refine IsS67.far ?_ NB383_382.out _|refine IsS67.far ?_ NB383_393.out _)|exact HI383.out)) (by (with_reducible repeat (first|apply Kd.R_alloc|apply Kd.R_drewN|apply Kd.R_drew));exact HO386.out) (by decide)) hk (fun _ h=>h.2)) (fun _ h=>h.1));replace HO389:=Aside0.mk (Kd.R_mono (Kd.R_keep (IsS67.apart (show IsS67 w _ gb383 l0 t395 t396 from by repeat (first|(with_reducible first|exact HI383.out|apply IsS67.alloc|apply IsS67.drewN|apply IsS67.drew|apply IsS67.set_1|apply IsS67.set_2|refine IsS67.far ?_ NB383_382.out _|refine IsS67.far ?_ NB383_393.out _)|exact HI383.out)) (by (with_reducible repeat (first|apply Kd.R_alloc|apply Kd.R_drewN|apply Kd.R_drew));exact HO389.out) (by decide)) hk (fun _ h=>h.2)) (fun _ h=>h.1));replace BK393:=Aside0.mk (KeepBut.blk hk (g':=gb393) (o:= .cells #[.slice Ao9 t384.length co9] 26 (0,0)) (by (with_reducible repeat (first|refine blk_drewN ?_ _|refine blk_drew ?_|refine blk_alloc ?_ _));exact BK393.out) NB393_383.out (by simp));replace HB:=Aside0.mk (hb);replace HI383:=Aside0.mk (hi)
 (try clear hb)
 (try clear hb2)
 (try clear hk)
 (try clear hi)
 refine hK.out _ _ ((blk_cell BK393.out 0).trans rfl) (fun hHeld=> ?_);clear hK K;refine norm_ (a':= ?_) ?_ ?_;rotate_left
 ·
  show Act.put _ (some 29) _=_
  simp only [Act.put,List.setIfInBounds_toArray,List.set_cons_zero,List.set_cons_succ,i64_w,i32_w];rfl
 refine pure_ (i:=11) (N:=some 30) (v:= ?_) (a':= ?_) #[true,true,true,true,true,true,true,true,true,true,true,true,false,false,false,false] rfl rfl (any_of HT_.out (by kernel_rfl)) (fun _ _ _ h=>h) (Or.inl ⟨by rfl,?_⟩) ?_ ?_;rotate_left
 ·
  intro w';go_simp
  with_reducible rfl
 rotate_left
 ·
  simp only [Act.put,List.setIfInBounds_toArray,List.set_cons_zero,List.set_cons_succ,i64_w,i32_w];rfl
 refine one_ (i:=12) (N:=none) #[true,true,true,true,true,true,true,true,true,true,true,true,true,false,false,false] rfl rfl (one_of HT_.out (by kernel_rfl)) (by decide) (fun K hK=> ?_);have hs17:w16.cell? ⟨gb382,0,none⟩=some (.slice none 0 0):=(blk_cell BK382.out 0).trans rfl;have hfs17:=blk_frozen BK382.out 0;have hns17_1:=NB393_382.out;have hms17_1:=NB382_393.out;refine skip_ (w1:= ?_) (by rfl) rfl ?_ ?_;rotate_left
 ·
  go_simp;rfl
 refine hK.out _ _ (((cell_far (p:=⟨gb382,_,none⟩) NB393_382.out _).trans (hHeld))) (fun hHeld=> ?_);clear hK K;refine pure_ (i:=13) (N:=some 3) (v:= ?_) (a':= ?_) #[true,true,true,true,true,true,true,true,true,true,true,true,true,true,false,false] rfl rfl (any_of HT_.out (by kernel_rfl)) (fun _ _ _ h=>h) (Or.inl ⟨by rfl,?_⟩) ?_ ?_;rotate_left
 ·
  intro w';go_simp
  with_reducible rfl
 rotate_left
 ·
  simp only [Act.put,List.setIfInBounds_toArray,List.set_cons_zero,List.set_cons_succ,i64_w,i32_w];rfl
 refine pure_ (i:=14) (N:=some 4) (v:= ?_) (a':= ?_) #[true,true,true,true,true,true,true,true,true,true,true,true,true,true,true,false] rfl rfl (any_of HT_.out (by kernel_rfl)) (fun _ _ _ h=>h) (Or.inl ⟨by rfl,?_⟩) ?_ ?_;rotate_left
 ·
  intro w';go_simp
  with_reducible rfl
 rotate_left
 ·
  simp only [Act.put,List.setIfInBounds_toArray,List.set_cons_zero,List.set_cons_succ,i64_w,i32_w];rfl
 refine pure_ (i:=15) (N:=some 5) (v:= ?_) (a':= ?_) #[true,true,true,true,true,true,true,true,true,true,true,true,true,true,true,true] rfl rfl (any_of HT_.out (by kernel_rfl)) (fun _ _ _ h=>h) (Or.inl ⟨by rfl,?_⟩) ?_ ?_;rotate_left
 ·
  intro w';go_simp
  with_reducible rfl
 rotate_left
 ·
  simp only [Act.put,List.setIfInBounds_toArray,List.set_cons_zero,List.set_cons_succ,i64_w,i32_w];rfl
 refine done_ (done_of HT_.out (by kernel_rfl)) ?_
 try go_wp2
 refine bodyPost_ret (results_list (rs:= [.cell 2 26, .tmp 3, .tmp 4, .tmp 5]) rfl (by simp) (.cell gb382 26 #[.slice Ao9 t384.length co9] (0,0) _ rfl (by (with_reducible repeat (first|refine blk_drewN ?_ _|refine blk_drew ?_|refine blk_alloc ?_ _));refine blk_put (cs:= #[.slice none 0 0]) ?_ 0 _ rfl;(with_reducible repeat (first|refine blk_drewN ?_ _|refine blk_drew ?_|refine blk_alloc ?_ _));exact BK382.out) Try.underlying26 rfl (by kernel_rfl) (.tmp (.tmp (.tmp .nil))))) rfl ?_;exact ⟨_,_,by first|rfl|(simp [errW_none,errW_some] <;>rfl)|(simp [*,errW_none,errW_some] <;>rfl),by (with_reducible repeat (first|apply Kd.R_alloc|apply Kd.R_drewN|apply Kd.R_drew));exact Kd.R_mono (Kd.R_far (p:=⟨gb382,0,none⟩) (Kd.R_types HO386.out BK382.out (by decide)) (fun _ hk=>hk.2) (.slice Ao9 t384.length co9)) (fun _ hk=>hk.1),by (with_reducible repeat (first|apply Kd.R_alloc|apply Kd.R_drewN|apply Kd.R_drew));exact Kd.R_mono (Kd.R_far (p:=⟨gb382,0,none⟩) (Kd.R_types HO389.out BK382.out (by decide)) (fun _ hk=>hk.2) (.slice Ao9 t384.length co9)) (fun _ hk=>hk.1),by repeat (first|(with_reducible first|exact HB.out|apply below_alloc|apply pw_below_drewN|apply below_drew1|refine below_set ?_ (IsS67.ge HI383.out)|refine below_set ?_ GE382.out|refine below_set ?_ GE393.out)|exact HB.out)⟩
open Go.Proofs.Ytkgngggppcmpfaa.X in
set_option maxHeartbeats 400000 in
set_option maxRecDepth 100000 in
theorem slices_IndexFunc.calls (A0 : Option Addr) (c0 : Nat) (l0 : List Int) (g : Nat) (lb : Array Value) (p : Int → Bool) (w : World) (eg : ∀ args w, (callFunc g args).run Try.prog w = .ok (.enter g args) w)
 (hr0:Kd.C (Kd.int .i64) w A0 l0.length l0) (hl:l0.length≤9223372036854775806) (hp: ∀ x,x ∈ l0→Fv Try.prog g lb #[.int .i64 x] (.bool (p x)) w):
 Calls Try.prog 133 #[.slice A0 l0.length c0, .func (.func g) #[] lb] w fun e w'=>e= .returned (.int .i64 (idxOf p l0))∧Below w.heap.size w w':=by
 have HR0:=Aside0.mk hr0;have HP:=Aside0.mk hp;clear hr0 hp;go_enter Try.func133,Try.ntmps133;go_wp2
 go_loopw [8] (fun v8 wr=> ∃ k:Nat,k≤l0.length∧v8= .int .i64 k∧Aside0 (idxOf p l0=idxFrom p (l0.drop k) k)∧Aside0 (Below w.heap.size w wr)) (fun v8 _=>l0.length - (intOf v8).toNat)
 case atStart=>exact ⟨0,Nat.zero_le _,rfl,⟨rfl⟩,⟨Below.refl _ _⟩⟩
 case round=>
  obtain ⟨k,hk,rfl,HI,HB⟩:=hrel
  by_cases hlt:k<l0.length
  ·
   have hdrop:l0.drop k=l0[k] ::l0.drop (k+1):=(List.drop_eq_getElem_cons hlt)
   have hrd:rd l0 (k:Int)=l0[k] :=by simp [rd,List.getD_eq_getElem?_getD,hlt]
   have hmem:l0[k] ∈ l0:=List.getElem_mem hlt;have hfv:=HP.out _ hmem;rw [←hrd] at hfv;have hI3:=Aside0.mk (show idxOf p l0=if p (rd l0 (k:Int)) then (k:Int) else idxFrom p (l0.drop (k+1)) (k+1) by rw [hrd,HI.out,hdrop,idxFrom]);have HF:=Aside0.mk hfv;clear hfv hdrop hrd HI hmem;have p1:0≤((k:Nat):Int):=by omega
   have q1:((k:Nat):Int)<(l0.length:Int):=by omega
   obtain ⟨ad,e1,hx⟩:=Kd.at_int (Kd.C_below HR0.out HB.out) k p1 q1;rw [Int.toNat_natCast] at hx;cases e1
   by_cases hp:p (rd l0 (k:Int))=true
   all_goals
    have hP:=Aside0.mk hp;go_wp2_with (go_at_fn g;(with_reducible refine (Fv.calls HF.out HB.out).mono ?_);rintro e w2 ⟨rfl,hb⟩)
    first|go_ret|go_roundw
   ·
    exact ⟨by rw [hI3.out,if_pos hP.out];rfl,below_to HB.out hb⟩
   case rel=>exact ⟨k+1,by omega,by go_num,⟨by rw [hI3.out,if_neg hP.out]⟩,⟨below_to HB.out hb⟩⟩
   case measure=>simp [intOf];omega
  ·
   go_wp2
   go_ret
   exact ⟨by rw [HI.out,List.drop_of_length_le (by omega)];rfl,HB.out⟩
open Go.Proofs.Ytkgngggppcmpfaa.X in
set_option maxHeartbeats 400000 in
set_option maxRecDepth 100000 in
theorem slices_ContainsFunc.calls (A0 : Option Addr) (c0 : Nat) (l0 : List Int) (g : Nat) (lb : Array Value) (p : Int → Bool) (w : World) (eg : ∀ args w, (callFunc g args).run Try.prog w = .ok (.enter g args) w)
 (hr0:Kd.C (Kd.int .i64) w A0 l0.length l0) (hl:l0.length≤9223372036854775806) (hp: ∀ x,x ∈ l0→Fv Try.prog g lb #[.int .i64 x] (.bool (p x)) w):
 Calls Try.prog 119 #[.slice A0 l0.length c0, .func (.func g) #[] lb] w fun e w'=>e= .returned (.bool (l0.any p))∧Below w.heap.size w w':=by
 have EG:=Aside0.mk eg;have HR0:=Aside0.mk hr0;have HP:=Aside0.mk hp;clear hr0 hp eg;go_enter Try.func119,Try.ntmps119;go_wp2_with (go_at_call 133;(with_reducible refine (slices_IndexFunc.calls _ _ l0 g lb p _ EG.out HR0.out hl HP.out).mono ?_);rintro e w2 ⟨rfl,hb⟩)
 go_ret
 refine ⟨?_,hb⟩;have:=idxFrom_any p l0 0;unfold idxOf
 by_cases h:l0.any p=true
 ·
  rw [h] at this ⊢;simp [this.mpr rfl]
 ·
  have h2: ¬ (0≤idxFrom p l0 0):=fun z=>h (this.mp z)
  simp [Bool.eq_false_iff.mpr h,h2]
def impl_areElements.p (l0 : List Int) (e : Int) : Bool := !(decide (0 ≤ e) && decide (e ≤ wrap64 ((l0.length : Int) - 1)))
def impl_areElements.f (l0_0 : List Int) (l1 : List Int) (a2 : Int) : Option (Bool) := if l1.length ≤ 9223372036854775806 then (if (l1.length : Int) ≤ a2 then some (!(l1.any (impl_areElements.p l0_0))) else some false) else none
open Go.Proofs.Ytkgngggppcmpfaa.X in
set_option maxHeartbeats 800000 in
theorem impl_areElements.lit (A0 : Option Addr) (c0 : Nat) (l0 : List Int) (n : Int) (B : Nat) (w : World) (hr0 : Kd.C (Kd.int .i64) w A0 l0.length l0) (hc0 : l0.length ≤ c0) (hB : B < w.heap.size) (hc : w.cell? ⟨B, 0, none⟩ = some (.slice A0 l0.length c0)) :
 Fv Try.prog 120 #[.pointer (some ⟨B,0,none⟩)] #[.int .i64 n] (.bool (impl_areElements.p l0 n)) w:=by
 intro W hb;have hc':W.cell? ⟨B,0,none⟩=some (.slice A0 l0.length c0):=(hb.cell (p:=⟨B,0,none⟩) hB).trans hc;obtain ⟨b,HW,hp⟩: ∃ b,impl_within.f n 0 (wrap64 ((l0.length:Int) - 1))=some b∧impl_areElements.p l0 n= !b:=⟨decide (0≤n) && decide (n≤wrap64 ((l0.length:Int) - 1)),by unfold impl_within.f;by_cases h:0≤n<;>simp [h],rfl⟩
 rw [hp];have HA:=Aside0.mk HW;have HR:=Aside0.mk (Kd.C_below hr0 hb);have HC:=Aside0.mk hc0;clear HW hp hr0 hb hc hc0;have hu:=Try.underlying26;go_enter Try.func120,Try.ntmps120;go_wp2_with (first|(go_at_call 81;(with_reducible refine (impl_within.calls n 0 (wrap64 ((l0.length:Int) - 1)) b _ HA.out).mono ?_);rintro e w2 ⟨rfl,⟨nd,rfl⟩⟩)|(go_at_call 65;(with_reducible refine (impl_Poset_n.calls _ _ l0 (l0.length:Int) _ HR.out HC.out rfl).mono ?_);rintro e w1 ⟨rfl,hb⟩))
 go_ret
 exact ⟨rfl,pw_below_drewN hb _⟩
open Go.Proofs.Ytkgngggppcmpfaa.X in
set_option maxHeartbeats 800000 in
theorem impl_areElements.calls (A0_0 : Option Addr) (c0_0 : Nat) (l0_0 : List Int) (A1 : Option Addr) (c1 : Nat) (l1 : List Int) (a2 : Int) (r : Bool) (w : World) (hr0_0 : Kd.C (Kd.int .i64) w A0_0 l0_0.length l0_0) (hc0_0 : l0_0.length ≤ c0_0) (hr1 : Kd.C (Kd.int .i64) w A1 l1.length l1) (hc1 : l1.length ≤ c1) (h : impl_areElements.f l0_0 l1 a2 = some r) :
 Calls Try.prog 85 #[.agg #[.slice A0_0 l0_0.length c0_0], .slice A1 l1.length c1, .int .i64 a2] w fun e w'=>e= .returned (.bool r)∧Below w.heap.size w w':=by
 unfold impl_areElements.f at h
 split at h
 ·
  rename_i hl;have HL:=Aside0.mk hl;have HR0:=Aside0.mk hr0_0;have HC0:=Aside0.mk hc0_0;have HR1:=Aside0.mk hr1;clear hr0_0 hc0_0 hr1 hc1 hl;have hC:=Aside0.mk fun (W:World) (hb:Below w.heap.size w W) (hB:w.heap.size<W.heap.size) (hc:W.cell? ⟨w.heap.size,0,none⟩=some (.slice A0_0 l0_0.length c0_0))=>
   slices_ContainsFunc.calls A1 c1 l1 120 #[.pointer (some ⟨w.heap.size,0,none⟩)] (impl_areElements.p l0_0) W (enters_ Try.func120 (by kernel_rfl) rfl) (Kd.C_below HR1.out hb) HL.out (fun x _=>impl_areElements.lit A0_0 c0_0 l0_0 x _ W (Kd.C_below HR0.out hb) HC0.out hB hc)
  by_cases hm:(l1.length:Int)≤a2
  ·
   rw [if_pos hm] at h;obtain rfl:=Option.some.inj h;clear h;have hm1:decide ((l1.length:Int)≤a2)=true:=decide_eq_true hm;clear hm;go_enter Try.func85,Try.ntmps85;go_wp2_with (go_at_call 119;refine (hC.out _ (below_alloc (Below.refl _ _) _) (by simp) (by simp)).mono ?_;rintro e w' ⟨rfl,hb⟩)
   go_ret
   exact ⟨rfl,((Below.refl _ w).alloc (Nat.le_refl _) _).trans (hb.mono (by simp))⟩
  ·
   rw [if_neg hm] at h;obtain rfl:=Option.some.inj h;clear h;have hm1:decide ((l1.length:Int)≤a2)=false:=decide_eq_false hm;clear hm;go_enter Try.func85,Try.ntmps85;go_wp2
   go_ret
   exact ⟨rfl,below_alloc (Below.refl _ _) _⟩
 ·
  exact absurd h (by simp)
end Go.Proofs.Ytkgngggppcmpfaa.L
end
section
namespace Go.Proofs.Ytkgngggppcmpfaa.L
open Go.RowKit Go.Proofs.YtkgngggppcmpfaaW.PrintWords Go.Proofs.YtkgngggppcmpfaaW.PrintLast Go.Proofs.YtkgngggppcmpfaaW.PrintMore Go.Proofs.Ytkgngggppcmpfaa.X
attribute [local go_sem] max2_int min2_int max_two min_two max_three min_three max_four min_four
set_option linter.unusedVariables false
set_option linter.unusedSimpArgs false
def impl_ToggleNumbers.j0 : Nat → List Int → Int → List Int → Bool → List Int → Option (List Int × Bool)
 |0,_,_,_,_,_=>none
 |k+1,x1,x2,x3,x21,x401000=>if x21=true then (some (([] :List Int),false)) else ((slices_Clone_int_int.f x1).bind fun t403=>((impl_Poset_turn.f k x401000 t403 x2 x3).bind fun t406=>(some (t406,true))))
def impl_ToggleNumbers.f (k : Nat) (l0_0 : List Int) (l1 : List Int) (a2 : Int) (l3 : List Int) : Option (List Int × Bool) := (impl_isArray.f k l0_0 l1 a2).bind fun t401 => (if t401 = true then ((impl_areElements.f l0_0 l3 100).bind fun t402 => (impl_ToggleNumbers.j0 k l1 a2 l3 (!t402) l0_0)) else (impl_ToggleNumbers.j0 k l1 a2 l3 true l0_0))
theorem impl_ToggleNumbers.mono_l : ∀ k, (∀ y0 y1 y2 y3 y4, LeO (impl_ToggleNumbers.j0 k y0 y1 y2 y3 y4) (impl_ToggleNumbers.j0 (k + 1) y0 y1 y2 y3 y4))
 |0=>fun _ _ _ _ _ r h=>by simp [impl_ToggleNumbers.j0] at h
 |k+1=>by
  have ih0:=impl_ToggleNumbers.mono_l k
  ·
   intro y0 y1 y2 y3 y4;unfold impl_ToggleNumbers.j0
   repeat' first
   |(with_reducible exact ih0 _ _ _ _ _)
   |(with_reducible exact impl_Poset_turn.mono _ _ _ _ _)
   |(with_reducible exact impl_isArray.mono _ _ _ _)
   |(with_reducible exact LeO.refl _)
   |(with_reducible exact LeO.none _)
   |(with_reducible refine LeO.ite ?_ ?_)
   |(with_reducible refine LeO.bind ?_ (fun _=> ?_))
   |exact ih0 _ _ _ _ _
   |exact impl_Poset_turn.mono _ _ _ _ _
   |exact impl_isArray.mono _ _ _ _
   |exact LeO.none _
   |refine LeO.ite ?_ ?_
   |refine LeO.bind ?_ (fun _=> ?_)
theorem impl_ToggleNumbers.mono : ∀ a0 a1 a2 a3 k, LeO (impl_ToggleNumbers.f k a0 a1 a2 a3) (impl_ToggleNumbers.f (k + 1) a0 a1 a2 a3) := by
 intro a0 a1 a2 a3 k;have ih0:=impl_ToggleNumbers.mono_l k;unfold impl_ToggleNumbers.f
 repeat' first
  |(with_reducible exact ih0 _ _ _ _ _)
  |(with_reducible exact impl_Poset_turn.mono _ _ _ _ _)
  |(with_reducible exact impl_isArray.mono _ _ _ _)
  |(with_reducible exact LeO.refl _)
  |(with_reducible exact LeO.none _)
  |(with_reducible refine LeO.ite ?_ ?_)
  |(with_reducible refine LeO.bind ?_ (fun _=> ?_))
  |exact ih0 _ _ _ _ _
  |exact impl_Poset_turn.mono _ _ _ _ _
  |exact impl_isArray.mono _ _ _ _
  |exact LeO.none _
  |refine LeO.ite ?_ ?_
  |refine LeO.bind ?_ (fun _=> ?_)
set_option maxHeartbeats 8000000 in
set_option maxRecDepth 100000 in
theorem impl_ToggleNumbers.calls (k : Nat) (A0_0 : Option Addr) (c0_0 : Nat) (l0_0 : List Int) (A1 : Option Addr) (c1 : Nat) (l1 : List Int) (a2 : Int) (A3 : Option Addr) (c3 : Nat) (l3 : List Int) (r1 : List Int) (r2 : Bool) (w : World) (hr0_0 : Kd.C (Kd.int .i64) w A0_0 l0_0.length l0_0) (hc0_0 : l0_0.length ≤ c0_0) (hr1 : Kd.C (Kd.int .i64) w A1 l1.length l1) (hc1 : l1.length ≤ c1) (hr3 : Kd.C (Kd.int .i64) w A3 l3.length l3) (hc3 : l3.length ≤ c3) (h : impl_ToggleNumbers.f k l0_0 l1 a2 l3 = some (r1, r2)) :
 Calls Try.prog 25 #[.agg #[.slice A0_0 l0_0.length c0_0], .slice A1 l1.length c1, .int .i64 a2, .slice A3 l3.length c3] w fun e w'=> ∃ v0_:Value,e= .returned (.tuple #[v0_, .bool r2])∧Kd.R (Kd.int .i64) 3 w' w.heap.size (fun _=>True) v0_ r1∧Below w.heap.size w w':=by
 have hu26:=Try.underlying26;have HR0_0:=Aside0.mk hr0_0;have HC0_0:=Aside0.mk hc0_0;clear hr0_0 hc0_0;have HR1:=Aside0.mk hr1;have HC1:=Aside0.mk hc1;clear hr1 hc1;have HR3:=Aside0.mk hr3;have HC3:=Aside0.mk hc3;clear hr3 hc3;have HB:=Aside0.mk (Below.refl w.heap.size w);have H:((impl_isArray.f k l0_0 l1 a2).bind fun t401=>(if t401=true then ((impl_areElements.f l0_0 l3 100).bind fun t402=>(impl_ToggleNumbers.j0 k l1 a2 l3 (!t402) l0_0)) else (impl_ToggleNumbers.j0 k l1 a2 l3 true l0_0)))=some (r1,r2):=h;clear h;have HC5:=Aside0.mk H;clear H;go_enter Try.func25,Try.ntmps25;go_upto_region 1 with (first|(refine bE (N:=4) (cs:= #[.slice A0_0 l0_0.length c0_0]) (t:=26) ?_;intro gb400 hg w6 hbox hb;have BK400:=Aside0.mk (hbox);have GW400:=Aside0.mk ((by rw [hg];exact (below_size (uB HB)):w.heap.size≤gb400));have GE400:=GW400;replace HB:=Aside0.mk (below_step (uB HB) hb);clear hb hbox hg))
 (try simp only [Act.put,List.setIfInBounds_toArray,List.set_cons_zero,List.set_cons_succ])
 go_cut [21] (fun v21 wc=> ∃ (kq:Nat) (x21_4:Bool),v21= .bool x21_4∧Aside0 (impl_ToggleNumbers.j0 kq l1 a2 l3 x21_4 l0_0=some (r1,r2))∧Aside0 (kq≤k)∧Aside0 (wc.heap[gb400]? =some (.cells #[(.slice A0_0 l0_0.length c0_0)] 26 (0,0)))∧Aside0 (Below w.heap.size w wc))
 case first=>
  have H:=HC5.out;clear HC5;obtain ⟨t401,A7,H⟩:=bs H;(try dsimp only at H)
  by_cases c8:t401=true
  ·
   subst c8;rw [if_pos rfl] at H;obtain ⟨t402,A9,H⟩:=bs H;(try dsimp only at H)
   have H':=Aside0.mk H;clear H;have hcz10_0:=bC BK400;have hfz10_0:=blk_frozen BK400.out 0;go_wp2_with (first|(refine gA (some 14) Try.func62 #[.agg #[.slice A0_0 l0_0.length c0_0], .slice A1 l1.length c1, .int .i64 a2] ?_;(with_reducible refine (impl_isArray.calls k _ _ l0_0 _ _ l1 a2 true _ (uD HR0_0 HB) HC0_0.out (uD HR1 HB) HC1.out A7.out).mono ?_);rintro e w11 ⟨rfl,hb⟩;refine ⟨_,rfl,?_⟩;replace BK400:=Aside0.mk (blk_below (uK BK400) hb);replace HB:=Aside0.mk (below_step (uB HB) hb);(try clear hb);have hcz12_0:=bC BK400;have hfz12_0:=blk_frozen BK400.out 0)|(go_at_call 85;(with_reducible refine (impl_areElements.calls _ _ l0_0 _ _ l3 100 t402 _ (uD HR0_0 HB) HC0_0.out (uD HR3 HB) HC3.out A9.out).mono ?_);rintro e w13 ⟨rfl,hb⟩;replace BK400:=Aside0.mk (blk_below (uK BK400) hb);replace HB:=Aside0.mk (below_step (uB HB) hb);(try clear hb)))
   go_meet
   case rel=>exact ⟨_,(!t402),(by first|rfl|(simp;done)|(simp [*];done)),H',⟨by first|omega|exact Nat.le_refl _⟩,⟨uK BK400⟩,⟨uB HB⟩⟩
  ·
   replace c8:=Bool.eq_false_iff.mpr c8;subst c8;rw [if_neg (show ¬ (false=true) by decide)] at H;have H':=Aside0.mk H;clear H;have hcz14_0:=bC BK400;have hfz14_0:=blk_frozen BK400.out 0;go_wp2_with (first|(refine gA (some 14) Try.func62 #[.agg #[.slice A0_0 l0_0.length c0_0], .slice A1 l1.length c1, .int .i64 a2] ?_;(with_reducible refine (impl_isArray.calls k _ _ l0_0 _ _ l1 a2 false _ (uD HR0_0 HB) HC0_0.out (uD HR1 HB) HC1.out A7.out).mono ?_);rintro e w15 ⟨rfl,hb⟩;refine ⟨_,rfl,?_⟩;replace BK400:=Aside0.mk (blk_below (uK BK400) hb);replace HB:=Aside0.mk (below_step (uB HB) hb);(try clear hb)))
   go_meet
   case rel=>exact ⟨_,(true),(by first|rfl|(simp;done)|(simp [*];done)),H',⟨by first|omega|exact Nat.le_refl _⟩,⟨uK BK400⟩,⟨uB HB⟩⟩
 case rest=>
  clear HC5
  try clear c1
  try clear c2
  try clear p2
  try clear c3
  try clear c6
  try clear c8
  try clear hcz10_0
  try clear hcz12_0
  try clear hcz14_0
  try clear hfz10_0
  try clear hfz12_0
  try clear hfz14_0
  obtain ⟨kq,x21_4,rfl,HA,HJ4,BK400,HB⟩:=hcut;cases kq with
  |zero=>exact absurd HA.out (by simp [impl_ToggleNumbers.j0])
  |succ kj4=>
   have H:=HA.out;clear HA;simp only [impl_ToggleNumbers.j0] at H
   by_cases c16:x21_4=true
   ·
    subst c16;rw [if_pos rfl] at H;simp only [Option.some.injEq,Prod.mk.injEq] at H;obtain ⟨rfl,rfl⟩:=H;go_wp2
    go_ret2
    exact ⟨_,by first|rfl|(simp [errW_none,errW_some] <;>rfl)|(simp [*,errW_none,errW_some] <;>rfl),by first|exact Kd.R_nil _ _ _ _ _|exact Kd.N_nil _ _ _ _ _|exact Kd.V_nil _ _ _ _ _|exact Kd.Q_nil _ _ _ _ _|exact Kd.S_nil _ _ _ _ _,uB HB⟩
   ·
    replace c16:=Bool.eq_false_iff.mpr c16;subst c16;rw [if_neg (show ¬ (false=true) by decide)] at H;obtain ⟨t403,A17,H⟩:=bs H;(try dsimp only at H)
    obtain ⟨t406,A18,H⟩:=bs H;(try dsimp only at H)
    simp only [Option.some.injEq,Prod.mk.injEq] at H;obtain ⟨rfl,rfl⟩:=H;go_wp2_with (first|(refine gA (some 23) Try.func66 #[.slice A1 l1.length c1] ?_;(with_reducible refine (slices_Clone_int_int.calls _ _ l1 t403 _ (uD HR1 HB) HC1.out A17.out).mono ?_);rintro e w19 ⟨v404,rfl,ho0,hb⟩;refine ⟨_,rfl,?_⟩;have HO405:=Aside0.mk (Kd.R_lower ho0 (below_size (uB HB)));replace BK400:=Aside0.mk (blk_below (uK BK400) hb);replace HB:=Aside0.mk (below_step (uB HB) hb);(try clear hb ho0);have hcz20_0:=bC BK400;have hfz20_0:=blk_frozen BK400.out 0;obtain ⟨Ao21,co21,eo21⟩:=Kd.R_slice HO405.out;subst eo21)|(refine gA (some 28) Try.func68 #[.agg #[.slice A0_0 l0_0.length c0_0], .slice Ao21 t403.length co21, .int .i64 a2, .slice A3 l3.length c3] ?_;(with_reducible refine (impl_Poset_turn.calls kj4 _ _ l0_0 (fun k_=>some k_=(.slice Ao21 t403.length co21:Value).ownBlock) (.slice Ao21 t403.length co21) t403 a2 _ _ l3 t406 w _ (uB HB) ?side2 HC0_0.out ?side4 ?side5 HC3.out A18.out).mono ?_);(case side2=>exact Kd.C_kept_came (Kd.heap_int .i64) HR0_0.out (uB HB) (fun k_ hs_=>(fun e_=>Kd.R_base HO405.out k_ e_.symm) hs_));(case side4=>exact Kd.R_tight rfl HO405.out);(case side5=>exact Kd.C_kept_came (Kd.heap_int .i64) HR3.out (uB HB) (fun k_ hs_=>(fun e_=>Kd.R_base HO405.out k_ e_.symm) hs_));rintro e w22 ⟨rfl,hy0,hb,hkp⟩;refine ⟨_,rfl,?_⟩;replace BK400:=Aside0.mk (blk_kept (uK BK400) hkp (fun hs_=>(fun e_=>(Kd.R_ne HO405.out BK400.out (by decide)) e_) hs_));replace HO405:=Aside0.mk (Kd.R_reok rfl hy0 (fun k_ e_=>HO405.out.1 k_ e_));replace HB:=Aside0.mk (hb);(try clear hb);(try clear hkp);(try clear hy0)))
    go_ret2
    exact ⟨_,by first|rfl|(simp [errW_none,errW_some] <;>rfl)|(simp [*,errW_none,errW_some] <;>rfl),uR HO405,uB HB⟩
def impl_ToggleNumber.f (k : Nat) (l0_0 : List Int) (l1 : List Int) (a2 : Int) (a3 : Int) : Option (List Int × Bool) := (impl_ToggleNumbers.f k l0_0 l1 a2 (([a3] : List Int))).bind fun bt411 => (some (bt411.1, bt411.2))
theorem impl_ToggleNumber.mono : ∀ a0 a1 a2 a3 k, LeO (impl_ToggleNumber.f k a0 a1 a2 a3) (impl_ToggleNumber.f (k + 1) a0 a1 a2 a3) := by
 intro a0 a1 a2 a3 k;unfold impl_ToggleNumber.f
 repeat' first
  |(with_reducible exact impl_ToggleNumbers.mono _ _ _ _ _)
  |(with_reducible exact LeO.refl _)
  |(with_reducible exact LeO.none _)
  |(with_reducible refine LeO.ite ?_ ?_)
  |(with_reducible refine LeO.bind ?_ (fun _=> ?_))
  |exact impl_ToggleNumbers.mono _ _ _ _ _
  |exact LeO.none _
  |refine LeO.ite ?_ ?_
  |refine LeO.bind ?_ (fun _=> ?_)
set_option maxHeartbeats 8000000 in
set_option maxRecDepth 100000 in
theorem impl_ToggleNumber.calls (k : Nat) (A0_0 : Option Addr) (c0_0 : Nat) (l0_0 : List Int) (A1 : Option Addr) (c1 : Nat) (l1 : List Int) (a2 : Int) (a3 : Int) (r1 : List Int) (r2 : Bool) (w : World) (hr0_0 : Kd.C (Kd.int .i64) w A0_0 l0_0.length l0_0) (hc0_0 : l0_0.length ≤ c0_0) (hr1 : Kd.C (Kd.int .i64) w A1 l1.length l1) (hc1 : l1.length ≤ c1) (h : impl_ToggleNumber.f k l0_0 l1 a2 a3 = some (r1, r2)) :
 Calls Try.prog 20 #[.agg #[.slice A0_0 l0_0.length c0_0], .slice A1 l1.length c1, .int .i64 a2, .int .i64 a3] w fun e w'=> ∃ v0_:Value,e= .returned (.tuple #[v0_, .bool r2])∧Kd.R (Kd.int .i64) 3 w' w.heap.size (fun _=>True) v0_ r1∧Below w.heap.size w w':=by
 have hu26:=Try.underlying26;have HR0_0:=Aside0.mk hr0_0;have HC0_0:=Aside0.mk hc0_0;clear hr0_0 hc0_0;have HR1:=Aside0.mk hr1;have HC1:=Aside0.mk hc1;clear hr1 hc1;have HB:=Aside0.mk (Below.refl w.heap.size w);have H:((impl_ToggleNumbers.f k l0_0 l1 a2 (([a3] :List Int))).bind fun bt411=>(some (bt411.1,bt411.2)))=some (r1,r2):=h;clear h;obtain ⟨y408,hy408⟩: ∃ y_:List Int,y_=(([a3] :List Int)):=⟨_,rfl⟩
 replace H:((impl_ToggleNumbers.f k l0_0 l1 a2 y408).bind fun bt411=>(some (bt411.1,bt411.2)))=some (r1,r2):=by first|(rw [hy408];with_reducible exact H)|(have H2_:=(Option.bind_some _ _).symm.trans H;rw [hy408];with_reducible exact H2_)|(have H2_:=(Option.bind_some _ _).symm.trans H;with_reducible exact H2_)|with_reducible exact H|(rw [hy408];exact H)|exact H
 have Ny408:=Aside0.mk hy408;clear hy408;obtain ⟨⟨t411,t414⟩,A5,H⟩:=bs H;(try dsimp only at H)
 simp only [Option.some.injEq,Prod.mk.injEq] at H;obtain ⟨rfl,rfl⟩:=H;go_enter Try.func20,Try.ntmps20;go_wp2_with (first|(refine bE (N:=4) (cs:= #[.slice A0_0 l0_0.length c0_0]) (t:=26) ?_;intro gb407 hg w6 hbox hb;have BK407:=Aside0.mk (hbox);have GW407:=Aside0.mk ((by rw [hg];exact (below_size (uB HB)):w.heap.size≤gb407));have GE407:=GW407;replace HB:=Aside0.mk (below_step (uB HB) hb);clear hb hbox hg;have hcz7_0:=bC BK407;have hfz7_0:=blk_frozen BK407.out 0)|((with_reducible refine gate_dst (N:=14) rfl ?_);refine Kd.R_lit (Kd.int .i64) _ 3 ?hg (N:=14) ?hd (xs:=([a3] :List Int)) (inner:= [.int .i64 a3]) (ok:=fun _=>True) (okp:=fun _=>True) ?hr ?hp (fun _ hk=>hk) trivial (Below.refl _ _) (Nat.le_refl _) (by simp) ?_;(case hd=>rfl);(case hg=>rfl);(case hr=>first|(go_simp;done)|(go_simp;rfl));(case hp=>exact (Reps.one (show Kd.M (Kd.int .i64) _ _ _ a3 [.int .i64 a3] from rfl) (Reps.none _ _)));intro v409 w8 ho9 hb hg_ hnew_;clear hg_ hnew_;(first|rw [←Ny408.out] at ho9|(simp only [Int.reduceToNat] at ho9;rw [←Ny408.out] at ho9));have HO410:=Aside0.mk (Kd.R_lower ho9 (below_size (uB HB)));replace BK407:=Aside0.mk (blk_below (uK BK407) hb);replace HB:=Aside0.mk (below_step (uB HB) hb);clear hb ho9;obtain ⟨Ao10,co10,eo10⟩:=Kd.R_slice HO410.out;subst eo10)|(refine gA (some 15) Try.func25 #[.agg #[.slice A0_0 l0_0.length c0_0], .slice A1 l1.length c1, .int .i64 a2, .slice Ao10 y408.length co10] ?_;(with_reducible refine (impl_ToggleNumbers.calls k _ _ l0_0 _ _ l1 a2 _ _ y408 t411 t414 _ (uD HR0_0 HB) HC0_0.out (uD HR1 HB) HC1.out (uE HO410) ?side6 A5.out).mono ?_);(case side6=>exact (Kd.R_reads' HO410.out).2.1);rintro e w11 ⟨v412,rfl,ho0,hb⟩;refine ⟨_,rfl,?_⟩;have HO413:=Aside0.mk (Kd.R_lower (Kd.R_new' ho0 (Kd.R_lt (uR HO410))) (below_size (uB HB)));replace HO410:=Aside0.mk (Kd.R_elder' (uR HO410) (Kd.R_base ho0) hb);replace BK407:=Aside0.mk (blk_below (uK BK407) hb);replace HB:=Aside0.mk (below_step (uB HB) hb);(try clear hb ho0)))
 go_ret2
 exact ⟨_,by first|rfl|(simp [errW_none,errW_some] <;>rfl)|(simp [*,errW_none,errW_some] <;>rfl),by (with_reducible repeat (first|apply Kd.R_alloc|apply Kd.R_drewN|apply Kd.R_drew));exact Kd.R_mono HO413.out (fun _ hk=>trivial),uB HB⟩
mutual
def spec_poGood.l0 : Nat → List Int → Int → Int → List Int → Option (Bool)
 |0,_,_,_,_=>none
 |k+1,x14,x15,x16,x416000=>if x16<x15 then (if 0≤x16 then (if x16<(x14.length:Int) then ((spec_l1In.f (rd x14 x16) 0 (wrap64 ((shl .i64 1 x16) - 1))).bind fun t418=>(if t418=true then (spec_poGood.l1 k x16 (rd x14 x16) 0 x14 x15 x16 x416000) else (some false))) else (none)) else (none)) else (some true)
def spec_poGood.l1 : Nat → Int → Int → Int → List Int → Int → Int → List Int → Option (Bool)
 |0,_,_,_,_,_,_,_=>none
 |k+1,x4,x5,x6,x14,x15,x16,x416000=>if x6<x4 then (if 0≤x6 then (if (Int.tmod (shr .i64 x5 x6) 2)=1 then (if x6<(x416000.length:Int) then (if (Go.bits .andNot .i64 (rd x416000 x6) x5)=0 then (spec_poGood.l1 k x4 x5 (wrap64 (x6+1)) x14 x15 x16 x416000) else (some false)) else (none)) else (spec_poGood.l1 k x4 x5 (wrap64 (x6+1)) x14 x15 x16 x416000)) else (none)) else (spec_poGood.l0 k x14 x15 (wrap64 (x16+1)) x416000)
end
def spec_poGood.f (k : Nat) (l0_0 : List Int) : Option (Bool) := (spec_l1In.f (l0_0.length : Int) 1 10).bind fun t416 => (if t416 = true then (spec_poGood.l0 k l0_0 (l0_0.length : Int) 0 l0_0) else (some false))
theorem spec_poGood.mono_l : ∀ k, (∀ y0 y1 y2 y3, LeO (spec_poGood.l0 k y0 y1 y2 y3) (spec_poGood.l0 (k + 1) y0 y1 y2 y3)) ∧ (∀ y0 y1 y2 y3 y4 y5 y6, LeO (spec_poGood.l1 k y0 y1 y2 y3 y4 y5 y6) (spec_poGood.l1 (k + 1) y0 y1 y2 y3 y4 y5 y6))
 |0=>⟨fun _ _ _ _ r h=>by simp [spec_poGood.l0] at h,fun _ _ _ _ _ _ _ r h=>by simp [spec_poGood.l1] at h⟩
 |k+1=>by
  obtain ⟨ih0,ih1⟩:=spec_poGood.mono_l k;refine ⟨?_,?_⟩
  ·
   intro y0 y1 y2 y3;unfold spec_poGood.l0
   repeat' first
   |(with_reducible exact ih0 _ _ _ _)
   |(with_reducible exact ih1 _ _ _ _ _ _ _)
   |(with_reducible exact LeO.refl _)
   |(with_reducible exact LeO.none _)
   |(with_reducible refine LeO.ite ?_ ?_)
   |(with_reducible refine LeO.bind ?_ (fun _=> ?_))
   |exact ih0 _ _ _ _
   |exact ih1 _ _ _ _ _ _ _
   |exact LeO.none _
   |refine LeO.ite ?_ ?_
   |refine LeO.bind ?_ (fun _=> ?_)
  ·
   intro y0 y1 y2 y3 y4 y5 y6;unfold spec_poGood.l1
   repeat' first
   |(with_reducible exact ih0 _ _ _ _)
   |(with_reducible exact ih1 _ _ _ _ _ _ _)
   |(with_reducible exact LeO.refl _)
   |(with_reducible exact LeO.none _)
   |(with_reducible refine LeO.ite ?_ ?_)
   |(with_reducible refine LeO.bind ?_ (fun _=> ?_))
   |exact ih0 _ _ _ _
   |exact ih1 _ _ _ _ _ _ _
   |exact LeO.none _
   |refine LeO.ite ?_ ?_
   |refine LeO.bind ?_ (fun _=> ?_)
theorem spec_poGood.mono : ∀ a0 k, LeO (spec_poGood.f k a0) (spec_poGood.f (k + 1) a0) := by
 intro a0 k;obtain ⟨ih0,ih1⟩:=spec_poGood.mono_l k;unfold spec_poGood.f
 repeat' first
  |(with_reducible exact ih0 _ _ _ _)
  |(with_reducible exact ih1 _ _ _ _ _ _ _)
  |(with_reducible exact LeO.refl _)
  |(with_reducible exact LeO.none _)
  |(with_reducible refine LeO.ite ?_ ?_)
  |(with_reducible refine LeO.bind ?_ (fun _=> ?_))
  |exact ih0 _ _ _ _
  |exact ih1 _ _ _ _ _ _ _
  |exact LeO.none _
  |refine LeO.ite ?_ ?_
  |refine LeO.bind ?_ (fun _=> ?_)
set_option maxHeartbeats 8000000 in
set_option maxRecDepth 100000 in
theorem spec_poGood.calls (k : Nat) (A0_0 : Option Addr) (c0_0 : Nat) (l0_0 : List Int) (r : Bool) (w : World) (hr0_0 : Kd.C (Kd.int .i64) w A0_0 l0_0.length l0_0) (hc0_0 : l0_0.length ≤ c0_0) (h : spec_poGood.f k l0_0 = some r) :
 Calls Try.prog 88 #[.agg #[.slice A0_0 l0_0.length c0_0]] w fun e w'=>e= .returned (.bool r)∧Below w.heap.size w w':=by
 have hu26:=Try.underlying26;have HR0_0:=Aside0.mk hr0_0;have HC0_0:=Aside0.mk hc0_0;clear hr0_0 hc0_0;have HB:=Aside0.mk (Below.refl w.heap.size w);have H:((spec_l1In.f (l0_0.length:Int) 1 10).bind fun t416=>(if t416=true then (spec_poGood.l0 k l0_0 (l0_0.length:Int) 0 l0_0) else (some false)))=some r:=h;clear h;obtain ⟨t416,A2,H⟩:=bs H;(try dsimp only at H)
 by_cases c3:t416=true
 ·
  subst c3;rw [if_pos rfl] at H;have H':=Aside0.mk H;clear H;go_enter Try.func88,Try.ntmps88;go_wp2_with (first|(refine bE (N:=1) (cs:= #[.slice A0_0 l0_0.length c0_0]) (t:=26) ?_;intro gb415 hg w4 hbox hb;have BK415:=Aside0.mk (hbox);have GW415:=Aside0.mk ((by rw [hg];exact (below_size (uB HB)):w.heap.size≤gb415));have GE415:=GW415;replace HB:=Aside0.mk (below_step (uB HB) hb);clear hb hbox hg;have hcz5_0:=bC BK415;have hfz5_0:=blk_frozen BK415.out 0)|(refine gA (some 11) Try.func95 #[.int .i64 (l0_0.length:Int), .int .i64 1, .int .i64 10] ?_;(with_reducible refine (spec_l1In.calls (l0_0.length:Int) 1 10 true _ A2.out).mono ?_);rintro e w' ⟨rfl,⟨nd,rfl⟩⟩;refine ⟨_,rfl,?_⟩))
  go_loopg [16] k (fun kq v16 w'=> ∃ (x16_1:Int),v16= .int .i64 x16_1∧Aside0 (spec_poGood.l0 kq l0_0 (l0_0.length:Int) x16_1 l0_0=some r)∧Aside0 (kq≤k)∧Aside0 (w'.heap[gb415]? =some (.cells #[(.slice A0_0 l0_0.length c0_0)] 26 (0,0)))∧Aside0 (Below w.heap.size w w'))
  case atStart=>exact ⟨(0),(by first|rfl|(simp;done)|(simp [*];done)),H',⟨Nat.le_refl _⟩,⟨uK BK415⟩,⟨uB HB⟩⟩
  case round=>
   clear H'
   try clear p2
   try clear c3
   try clear hcz5_0
   try clear hfz5_0
   obtain ⟨x16_1,rfl,HA,HK1,BK415,HB⟩:=hrel;cases gk with
   |zero=>exact absurd HA.out (by simp [spec_poGood.l0])
   |succ k1=>
    have H:=HA.out;clear HA;simp only [spec_poGood.l0] at H
    by_cases c6:x16_1<(l0_0.length:Int)
    ·
     rw [if_pos c6] at H;have c6b0:=decide_eq_true c6;clear c6
     by_cases c7:0≤x16_1
     ·
      rw [if_pos c7] at H;have c7b0:=decide_eq_true c7;clear c7
      by_cases c8:x16_1<(l0_0.length:Int)
      ·
       rw [if_pos c8] at H;have c8b0:=decide_eq_true c8;clear c8;have c9b0:=eq_true (of_decide_eq_true (by first|(with_reducible assumption)|assumption):0≤x16_1);obtain ⟨ji10,hji10⟩: ∃ j_:Int,(shl .i64 1 x16_1)=j_:=⟨_,rfl⟩
       replace H:((spec_l1In.f (rd l0_0 x16_1) 0 (wrap64 ((ji10) - 1))).bind fun t418=>(if t418=true then (spec_poGood.l1 k1 x16_1 (rd l0_0 x16_1) 0 l0_0 (l0_0.length:Int) x16_1 l0_0) else (some false)))=some r:=by first|(rw [hji10] at H;exact H)|(simp only [hji10] at H ⊢;exact H)
       have hji10_:(IntKind.i64.wrap (1*2 ^ min x16_1.toNat 64))=ji10:=hji10;have hji10z:x16_1≤64→(IntKind.i64.wrap (1*2 ^ x16_1.toNat))=ji10:=shl_small hji10;have hji10u:(IntKind.i64.wrap (2 ^ min x16_1.toNat 64))=ji10:=by have h_:=hji10_;rw [Int.one_mul] at h_;exact h_
       have hji10v:x16_1≤64→(IntKind.i64.wrap (2 ^ x16_1.toNat))=ji10:=fun hle_=>by have h_:=hji10z hle_;rw [Int.one_mul] at h_;exact h_
       have hji10y:(wrap64 (1*2 ^ min x16_1.toNat 64))=ji10:=(i64_w _).symm.trans hji10_;have hji10x:x16_1≤64→(wrap64 (1*2 ^ x16_1.toNat))=ji10:=fun h_=>(i64_w _).symm.trans (hji10z h_)
       obtain ⟨t418,A11,H⟩:=bs H;(try dsimp only at H)
       by_cases c12:t418=true
       ·
        subst c12;rw [if_pos rfl] at H;have H':=Aside0.mk H;clear H;have p417:0≤(x16_1:Int):=of_decide_eq_true (by first|(with_reducible assumption)|assumption);have q417:x16_1<(l0_0.length:Int):=of_decide_eq_true (by first|(with_reducible assumption)|assumption);obtain ⟨ad417,e417,hx417_0⟩:=Kd.at_int HR0_0.out x16_1 p417 q417;cases e417;replace hx417_0:=(HB.out.cell (World.block_lt_of_cell? w _ hx417_0)).trans hx417_0;replace p417:=eq_true p417;replace q417:=eq_true q417;go_wp2_with (first|((with_reducible refine gate_callee (f:=95) rfl ?_);refine goesL_ (some 25) rfl rfl Try.func95 (by kernel_rfl) rfl #[.int .i64 (rd l0_0 x16_1), .int .i64 0, .int .i64 (wrap64 ((ji10) - 1))] rfl (by (try simp only [List.map_toArray,List.map_cons,List.map_nil]);first|done|(simp only [hji10];rfl)|rfl|(simp only [List.length_drop,List.length_take];rfl)) ?_;(with_reducible refine (spec_l1In.calls (rd l0_0 x16_1) 0 (wrap64 ((ji10) - 1)) true _ A11.out).mono ?_);rintro e w' ⟨rfl,⟨nd,rfl⟩⟩;refine ⟨_,rfl,?_⟩))
        go_loopg [6] k1 (fun kq v6 w'=> ∃ (x6_2:Int),v6= .int .i64 x6_2∧Aside0 (spec_poGood.l1 kq x16_1 (rd l0_0 x16_1) x6_2 l0_0 (l0_0.length:Int) x16_1 l0_0=some r)∧Aside0 (kq≤k1)∧Aside0 (w'.heap[gb415]? =some (.cells #[(.slice (some ad417) l0_0.length c0_0)] 26 (0,0)))∧Aside0 (Below w.heap.size w w'))
        case atStart=>exact ⟨(0),(by first|rfl|(simp;done)|(simp [*];done)),H',⟨Nat.le_refl _⟩,⟨uK BK415⟩,⟨uB HB⟩⟩
        case round=>
         clear H'
         try clear c1
         try clear p2
         try clear c3
         try clear p4
         try clear q4
         try clear hx4
         try clear c6
         try clear c6b0
         try clear p6
         try clear c7
         try clear c7b0
         try clear c8
         try clear c8b0
         try clear c9
         try clear c9b0
         try clear c12
         try clear hcz5_0
         try clear hfz5_0
         try clear hx417_0
         try clear p2
         try clear p417
         try clear q417
         obtain ⟨x6_2,rfl,HA,HK2,BK415,HB⟩:=hrel;cases gk with
         |zero=>exact absurd HA.out (by simp [spec_poGood.l1])
         |succ k2=>
          have H:=HA.out;clear HA;simp only [spec_poGood.l1] at H
          by_cases c13:x6_2<x16_1
          ·
           rw [if_pos c13] at H;have c13b0:=decide_eq_true c13;clear c13
           by_cases c14:0≤x6_2
           ·
            rw [if_pos c14] at H;have c14b0:=eq_true c14;have c14b1:=decide_eq_true c14;clear c14;obtain ⟨ji15,hji15⟩: ∃ j_:Int,(shr .i64 (rd l0_0 x16_1) x6_2)=j_:=⟨_,rfl⟩
            replace H:(if (Int.tmod (ji15) 2)=1 then (if x6_2<(l0_0.length:Int) then (if (Go.bits .andNot .i64 (rd l0_0 x6_2) (rd l0_0 x16_1))=0 then (spec_poGood.l1 k2 x16_1 (rd l0_0 x16_1) (wrap64 (x6_2+1)) l0_0 (l0_0.length:Int) x16_1 l0_0) else (some false)) else (none)) else (spec_poGood.l1 k2 x16_1 (rd l0_0 x16_1) (wrap64 (x6_2+1)) l0_0 (l0_0.length:Int) x16_1 l0_0))=some r:=by first|(rw [hji15] at H;exact H)|(simp only [hji15] at H ⊢;exact H)
            have hji15_:((rd l0_0 x16_1) / 2 ^ min x6_2.toNat 64)=ji15:=hji15;have hji15z:x6_2≤64→((rd l0_0 x16_1) / 2 ^ x6_2.toNat)=ji15:=shr_small hji15
            by_cases c16:(Int.tmod (ji15) 2)=1
            ·
             rw [if_pos c16] at H;have c16b0:((Int.tmod (ji15) 2)==1)=true:=beq_iff_eq.mpr c16;have c16b1:((Int.tmod (ji15) 2) !=1)=false:=bne_eq_false_iff_eq.mpr c16;clear c16
             by_cases c17:x6_2<(l0_0.length:Int)
             ·
              rw [if_pos c17] at H;have c17b0:=decide_eq_true c17;clear c17
              by_cases c18:(Go.bits .andNot .i64 (rd l0_0 x6_2) (rd l0_0 x16_1))=0
              ·
               rw [if_pos c18] at H;have c18b0:((Go.bits .andNot .i64 (rd l0_0 x6_2) (rd l0_0 x16_1))==0)=true:=beq_iff_eq.mpr c18;have c18b1:((Go.bits .andNot .i64 (rd l0_0 x6_2) (rd l0_0 x16_1)) !=0)=false:=bne_eq_false_iff_eq.mpr c18;clear c18;have H':=Aside0.mk H;clear H;have hcz19_0:=bC BK415;have hfz19_0:=blk_frozen BK415.out 0;have p419:0≤(x6_2:Int):=of_decide_eq_true (by first|(with_reducible assumption)|assumption);have q419:x6_2<(l0_0.length:Int):=of_decide_eq_true (by first|(with_reducible assumption)|assumption);obtain ⟨ad419,e419,hx419_0⟩:=Kd.at_int HR0_0.out x6_2 p419 q419;obtain rfl:ad417=ad419:=(by injection e419)
               replace hx419_0:=(HB.out.cell (World.block_lt_of_cell? w _ hx419_0)).trans hx419_0;replace p419:=eq_true p419;replace q419:=eq_true q419;go_wp2;go_roundg k2
               case measure=>have:=HK1.out;have:=HK2.out;omega
               case rel=>exact ⟨(wrap64 (x6_2+1)),(by first|rfl|(simp;done)|(simp [*];done)),H',⟨by have:=HK1.out;have:=HK2.out;omega⟩,⟨uK BK415⟩,⟨uB HB⟩⟩
              ·
               rw [if_neg c18] at H;have c18b0:((Go.bits .andNot .i64 (rd l0_0 x6_2) (rd l0_0 x16_1))==0)=false:=beq_eq_false_iff_ne.mpr c18;have c18b1:((Go.bits .andNot .i64 (rd l0_0 x6_2) (rd l0_0 x16_1)) !=0)=true:=bne_iff_ne.mpr c18;obtain rfl:=Option.some.inj H;have hcz20_0:=bC BK415;have hfz20_0:=blk_frozen BK415.out 0;have p419:0≤(x6_2:Int):=of_decide_eq_true (by first|(with_reducible assumption)|assumption);have q419:x6_2<(l0_0.length:Int):=of_decide_eq_true (by first|(with_reducible assumption)|assumption);obtain ⟨ad419,e419,hx419_0⟩:=Kd.at_int HR0_0.out x6_2 p419 q419;obtain rfl:ad417=ad419:=(by injection e419)
               replace hx419_0:=(HB.out.cell (World.block_lt_of_cell? w _ hx419_0)).trans hx419_0;replace p419:=eq_true p419;replace q419:=eq_true q419;go_wp2
               go_ret
               exact ⟨by first|rfl|(simp [errW_none,errW_some] <;>rfl)|(simp only [←hji10,←hji15];first|rfl|(simp [errW_none,errW_some] <;>rfl))|(simp [*,errW_none,errW_some] <;>rfl),uB HB⟩
             ·
              rw [if_neg c17] at H;exact absurd H (by simp)
            ·
             rw [if_neg c16] at H;have c16b0:((Int.tmod (ji15) 2)==1)=false:=beq_eq_false_iff_ne.mpr c16;have c16b1:((Int.tmod (ji15) 2) !=1)=true:=bne_iff_ne.mpr c16;have H':=Aside0.mk H;clear H;go_wp2;go_roundg k2
             case measure=>have:=HK1.out;have:=HK2.out;omega
             case rel=>exact ⟨(wrap64 (x6_2+1)),(by first|rfl|(simp;done)|(simp [*];done)),H',⟨by have:=HK1.out;have:=HK2.out;omega⟩,⟨uK BK415⟩,⟨uB HB⟩⟩
           ·
            rw [if_neg c14] at H;exact absurd H (by simp)
          ·
           rw [if_neg c13] at H;have c13b0:=decide_eq_false c13;clear c13;have H':=Aside0.mk H;clear H;go_wp2;go_roundg k2
           case measure=>have:=HK1.out;have:=HK2.out;omega
           case rel=>exact ⟨(wrap64 (x16_1+1)),(by first|rfl|(simp;done)|(simp [*];done)),H',⟨by have:=HK1.out;have:=HK2.out;omega⟩,⟨uK BK415⟩,⟨uB HB⟩⟩
       ·
        replace c12:=Bool.eq_false_iff.mpr c12;subst c12;rw [if_neg (show ¬ (false=true) by decide)] at H;obtain rfl:=Option.some.inj H;have p417:0≤(x16_1:Int):=of_decide_eq_true (by first|(with_reducible assumption)|assumption);have q417:x16_1<(l0_0.length:Int):=of_decide_eq_true (by first|(with_reducible assumption)|assumption);obtain ⟨ad417,e417,hx417_0⟩:=Kd.at_int HR0_0.out x16_1 p417 q417;cases e417;replace hx417_0:=(HB.out.cell (World.block_lt_of_cell? w _ hx417_0)).trans hx417_0;replace p417:=eq_true p417;replace q417:=eq_true q417;go_wp2_with (first|((with_reducible refine gate_callee (f:=95) rfl ?_);refine goesL_ (some 25) rfl rfl Try.func95 (by kernel_rfl) rfl #[.int .i64 (rd l0_0 x16_1), .int .i64 0, .int .i64 (wrap64 ((ji10) - 1))] rfl (by (try simp only [List.map_toArray,List.map_cons,List.map_nil]);first|done|(simp only [hji10];rfl)|rfl|(simp only [List.length_drop,List.length_take];rfl)) ?_;(with_reducible refine (spec_l1In.calls (rd l0_0 x16_1) 0 (wrap64 ((ji10) - 1)) false _ A11.out).mono ?_);rintro e w' ⟨rfl,⟨nd,rfl⟩⟩;refine ⟨_,rfl,?_⟩))
        go_ret
        exact ⟨by first|rfl|(simp [errW_none,errW_some] <;>rfl)|(simp only [←hji10];first|rfl|(simp [errW_none,errW_some] <;>rfl))|(simp [*,errW_none,errW_some] <;>rfl),uB HB⟩
      ·
       rw [if_neg c8] at H;exact absurd H (by simp)
     ·
      rw [if_neg c7] at H;exact absurd H (by simp)
    ·
     rw [if_neg c6] at H;have c6b0:=decide_eq_false c6;clear c6;obtain rfl:=Option.some.inj H;go_wp2
     go_ret
     exact ⟨by first|rfl|(simp [errW_none,errW_some] <;>rfl)|(simp [*,errW_none,errW_some] <;>rfl),uB HB⟩
 ·
  replace c3:=Bool.eq_false_iff.mpr c3;subst c3;rw [if_neg (show ¬ (false=true) by decide)] at H;obtain rfl:=Option.some.inj H;go_enter Try.func88,Try.ntmps88;go_wp2_with (first|(refine bE (N:=1) (cs:= #[.slice A0_0 l0_0.length c0_0]) (t:=26) ?_;intro gb415 hg w21 hbox hb;have BK415:=Aside0.mk (hbox);have GW415:=Aside0.mk ((by rw [hg];exact (below_size (uB HB)):w.heap.size≤gb415));have GE415:=GW415;replace HB:=Aside0.mk (below_step (uB HB) hb);clear hb hbox hg;have hcz22_0:=bC BK415;have hfz22_0:=blk_frozen BK415.out 0)|(refine gA (some 11) Try.func95 #[.int .i64 (l0_0.length:Int), .int .i64 1, .int .i64 10] ?_;(with_reducible refine (spec_l1In.calls (l0_0.length:Int) 1 10 false _ A2.out).mono ?_);rintro e w' ⟨rfl,⟨nd,rfl⟩⟩;refine ⟨_,rfl,?_⟩))
  go_ret
  exact ⟨by first|rfl|(simp [errW_none,errW_some] <;>rfl)|(simp [*,errW_none,errW_some] <;>rfl),uB HB⟩
def spec_pcBound.f (a0 : Int) : Option (Bool) := (spec_l1In.f a0 0 20).bind fun t420 => (some t420)
set_option maxHeartbeats 8000000 in
set_option maxRecDepth 100000 in
theorem spec_pcBound.calls (a0 : Int) (r : Bool) (w : World) (h : spec_pcBound.f a0 = some r) :
 Calls Try.prog 89 #[.int .i64 a0] w fun e w'=>e= .returned (.bool r)∧Drawn0 w w':=by
 have H:((spec_l1In.f a0 0 20).bind fun t420=>(some t420))=some r:=h;clear h;obtain ⟨t420,A2,H⟩:=bs H;(try dsimp only at H)
 obtain rfl:=Option.some.inj H;go_enter Try.func89,Try.ntmps89;go_wp2_with (first|(refine gA (some 4) Try.func95 #[.int .i64 a0, .int .i64 0, .int .i64 20] ?_;(with_reducible refine (spec_l1In.calls a0 0 20 t420 _ A2.out).mono ?_);rintro e w' ⟨rfl,⟨nd,rfl⟩⟩;refine ⟨_,rfl,?_⟩))
 go_ret
 exact ⟨by first|rfl|(simp;done)|(simp [*];done),by repeat (first|exact Drawn0.refl _|apply Drawn0.step)⟩
def spec_l1All.l0 : Nat → Int → Int → List Int → Int → Int → Option (Bool)
 |0,_,_,_,_,_=>none
 |k+1,x1,x2,x9,x10,x11=>if x11<x10 then (if 0≤x11 then (if x11<(x9.length:Int) then ((spec_l1In.f (rd x9 x11) x1 x2).bind fun t422=>(if t422=true then (spec_l1All.l0 k x1 x2 x9 x10 (wrap64 (x11+1))) else (some false))) else (none)) else (none)) else (some true)
def spec_l1All.f (k : Nat) (l0 : List Int) (a1 : Int) (a2 : Int) : Option (Bool) := spec_l1All.l0 k a1 a2 l0 (l0.length : Int) 0
theorem spec_l1All.mono_l : ∀ k, (∀ y0 y1 y2 y3 y4, LeO (spec_l1All.l0 k y0 y1 y2 y3 y4) (spec_l1All.l0 (k + 1) y0 y1 y2 y3 y4))
 |0=>fun _ _ _ _ _ r h=>by simp [spec_l1All.l0] at h
 |k+1=>by
  have ih0:=spec_l1All.mono_l k
  ·
   intro y0 y1 y2 y3 y4;unfold spec_l1All.l0
   repeat' first
   |(with_reducible exact ih0 _ _ _ _ _)
   |(with_reducible exact LeO.refl _)
   |(with_reducible exact LeO.none _)
   |(with_reducible refine LeO.ite ?_ ?_)
   |(with_reducible refine LeO.bind ?_ (fun _=> ?_))
   |exact ih0 _ _ _ _ _
   |exact LeO.none _
   |refine LeO.ite ?_ ?_
   |refine LeO.bind ?_ (fun _=> ?_)
theorem spec_l1All.mono : ∀ a0 a1 a2 k, LeO (spec_l1All.f k a0 a1 a2) (spec_l1All.f (k + 1) a0 a1 a2) := by
 intro a0 a1 a2 k;have ih0:=spec_l1All.mono_l k;unfold spec_l1All.f
 repeat' first
  |(with_reducible exact ih0 _ _ _ _ _)
  |(with_reducible exact LeO.refl _)
  |(with_reducible exact LeO.none _)
  |(with_reducible refine LeO.ite ?_ ?_)
  |(with_reducible refine LeO.bind ?_ (fun _=> ?_))
  |exact ih0 _ _ _ _ _
  |exact LeO.none _
  |refine LeO.ite ?_ ?_
  |refine LeO.bind ?_ (fun _=> ?_)
set_option maxHeartbeats 8000000 in
set_option maxRecDepth 100000 in
theorem spec_l1All.calls (k : Nat) (A0 : Option Addr) (c0 : Nat) (l0 : List Int) (a1 : Int) (a2 : Int) (r : Bool) (w : World) (hr0 : Kd.C (Kd.int .i64) w A0 l0.length l0) (hc0 : l0.length ≤ c0) (h : spec_l1All.f k l0 a1 a2 = some r) :
 Calls Try.prog 121 #[.slice A0 l0.length c0, .int .i64 a1, .int .i64 a2] w fun e w'=>e= .returned (.bool r)∧Drawn0 w w':=by
 have HR0:=Aside0.mk hr0;have HC0:=Aside0.mk hc0;clear hr0 hc0;have H:(spec_l1All.l0 k a1 a2 l0 (l0.length:Int) 0)=some r:=h;clear h;have H':=Aside0.mk H;clear H;go_enter Try.func121,Try.ntmps121;go_wp2
 go_loopg [11] k (fun kq v11 w'=> ∃ (x11_1:Int),v11= .int .i64 x11_1∧Aside0 (spec_l1All.l0 kq a1 a2 l0 (l0.length:Int) x11_1=some r)∧Aside0 (kq≤k)∧Drawn0 w w')
 case atStart=>exact ⟨(0),(by first|rfl|(simp;done)|(simp [*];done)),H',⟨Nat.le_refl _⟩,by repeat (first|exact Drawn0.refl _|apply Drawn0.step)⟩
 case round=>
  clear H'
  try clear c1
  try clear p2
  obtain ⟨x11_1,rfl,HA,HK1,⟨m1,rfl⟩⟩:=hrel;cases gk with
  |zero=>exact absurd HA.out (by simp [spec_l1All.l0])
  |succ k1=>
   have H:=HA.out;clear HA;simp only [spec_l1All.l0] at H
   by_cases c4:x11_1<(l0.length:Int)
   ·
    rw [if_pos c4] at H;have c4b0:=decide_eq_true c4;clear c4
    by_cases c5:0≤x11_1
    ·
     rw [if_pos c5] at H;have c5b0:=decide_eq_true c5;clear c5
     by_cases c6:x11_1<(l0.length:Int)
     ·
      rw [if_pos c6] at H;have c6b0:=decide_eq_true c6;clear c6;obtain ⟨t422,A7,H⟩:=bs H;(try dsimp only at H)
      by_cases c8:t422=true
      ·
       subst c8;rw [if_pos rfl] at H;have H':=Aside0.mk H;clear H;have p421:0≤(x11_1:Int):=of_decide_eq_true (by first|(with_reducible assumption)|assumption);have q421:x11_1<(l0.length:Int):=of_decide_eq_true (by first|(with_reducible assumption)|assumption);obtain ⟨ad421,e421,hx421_0⟩:=Kd.at_int HR0.out x11_1 p421 q421;cases e421;replace p421:=eq_true p421;replace q421:=eq_true q421;go_wp2_with (first|(refine gA (some 18) Try.func95 #[.int .i64 (rd l0 x11_1), .int .i64 a1, .int .i64 a2] ?_;(with_reducible refine (spec_l1In.calls (rd l0 x11_1) a1 a2 true _ A7.out).mono ?_);rintro e w' ⟨rfl,⟨nd,rfl⟩⟩;refine ⟨_,rfl,?_⟩));go_roundg k1
       case measure=>have:=HK1.out;omega
       case rel=>exact ⟨(wrap64 (x11_1+1)),(by first|rfl|(simp;done)|(simp [*];done)),H',⟨by have:=HK1.out;omega⟩,by repeat (first|exact Drawn0.refl _|apply Drawn0.step)⟩
      ·
       replace c8:=Bool.eq_false_iff.mpr c8;subst c8;rw [if_neg (show ¬ (false=true) by decide)] at H;obtain rfl:=Option.some.inj H;have p421:0≤(x11_1:Int):=of_decide_eq_true (by first|(with_reducible assumption)|assumption);have q421:x11_1<(l0.length:Int):=of_decide_eq_true (by first|(with_reducible assumption)|assumption);obtain ⟨ad421,e421,hx421_0⟩:=Kd.at_int HR0.out x11_1 p421 q421;cases e421;replace p421:=eq_true p421;replace q421:=eq_true q421;go_wp2_with (first|(refine gA (some 18) Try.func95 #[.int .i64 (rd l0 x11_1), .int .i64 a1, .int .i64 a2] ?_;(with_reducible refine (spec_l1In.calls (rd l0 x11_1) a1 a2 false _ A7.out).mono ?_);rintro e w' ⟨rfl,⟨nd,rfl⟩⟩;refine ⟨_,rfl,?_⟩))
       go_ret
       exact ⟨by first|rfl|(simp;done)|(simp [*];done),by repeat (first|exact Drawn0.refl _|apply Drawn0.step)⟩
     ·
      rw [if_neg c6] at H;exact absurd H (by simp)
    ·
     rw [if_neg c5] at H;exact absurd H (by simp)
   ·
    rw [if_neg c4] at H;have c4b0:=decide_eq_false c4;clear c4;obtain rfl:=Option.some.inj H;go_wp2
    go_ret
    exact ⟨by first|rfl|(simp;done)|(simp [*];done),by repeat (first|exact Drawn0.refl _|apply Drawn0.step)⟩
mutual
def spec_pcRises.l0 : Nat → List Int → List Int → Int → Int → Option (Bool)
 |0,_,_,_,_=>none
 |k+1,x1,x15,x16,x17=>if x17<x16 then (if 0≤x17 then (if x17<(x15.length:Int) then (spec_pcRises.l1 k x1 x17 (rd x15 x17) 0 x15 x16 x17) else (none)) else (none)) else (some true)
def spec_pcRises.l1 : Nat → List Int → Int → Int → Int → List Int → Int → Int → Option (Bool)
 |0,_,_,_,_,_,_,_=>none
 |k+1,x1,x7,x8,x9,x15,x16,x17=>if x9<x7 then ((spec_poIn.f x8 x9).bind fun t426=>(if t426=true then (if 0≤x9 then (if x9<(x1.length:Int) then (if 0≤x7 then (if x7<(x1.length:Int) then (if (rd x1 x9)>(rd x1 x7) then (some false) else (spec_pcRises.l1 k x1 x7 x8 (wrap64 (x9+1)) x15 x16 x17)) else (none)) else (none)) else (none)) else (none)) else (spec_pcRises.l1 k x1 x7 x8 (wrap64 (x9+1)) x15 x16 x17))) else (spec_pcRises.l0 k x1 x15 x16 (wrap64 (x17+1)))
end
def spec_pcRises.f (k : Nat) (l0_0 : List Int) (l1 : List Int) (a2 : Int) : Option (Bool) := (spec_l1All.f k l1 0 a2).bind fun t424 => (if t424 = true then (spec_pcRises.l0 k l1 l0_0 (l0_0.length : Int) 0) else (some false))
theorem spec_pcRises.mono_l : ∀ k, (∀ y0 y1 y2 y3, LeO (spec_pcRises.l0 k y0 y1 y2 y3) (spec_pcRises.l0 (k + 1) y0 y1 y2 y3)) ∧ (∀ y0 y1 y2 y3 y4 y5 y6, LeO (spec_pcRises.l1 k y0 y1 y2 y3 y4 y5 y6) (spec_pcRises.l1 (k + 1) y0 y1 y2 y3 y4 y5 y6))
 |0=>⟨fun _ _ _ _ r h=>by simp [spec_pcRises.l0] at h,fun _ _ _ _ _ _ _ r h=>by simp [spec_pcRises.l1] at h⟩
 |k+1=>by
  obtain ⟨ih0,ih1⟩:=spec_pcRises.mono_l k;refine ⟨?_,?_⟩
  ·
   intro y0 y1 y2 y3;unfold spec_pcRises.l0
   repeat' first
   |(with_reducible exact ih0 _ _ _ _)
   |(with_reducible exact ih1 _ _ _ _ _ _ _)
   |(with_reducible exact spec_l1All.mono _ _ _ _)
   |(with_reducible exact LeO.refl _)
   |(with_reducible exact LeO.none _)
   |(with_reducible refine LeO.ite ?_ ?_)
   |(with_reducible refine LeO.bind ?_ (fun _=> ?_))
   |exact ih0 _ _ _ _
   |exact ih1 _ _ _ _ _ _ _
   |exact spec_l1All.mono _ _ _ _
   |exact LeO.none _
   |refine LeO.ite ?_ ?_
   |refine LeO.bind ?_ (fun _=> ?_)
  ·
   intro y0 y1 y2 y3 y4 y5 y6;unfold spec_pcRises.l1
   repeat' first
   |(with_reducible exact ih0 _ _ _ _)
   |(with_reducible exact ih1 _ _ _ _ _ _ _)
   |(with_reducible exact spec_l1All.mono _ _ _ _)
   |(with_reducible exact LeO.refl _)
   |(with_reducible exact LeO.none _)
   |(with_reducible refine LeO.ite ?_ ?_)
   |(with_reducible refine LeO.bind ?_ (fun _=> ?_))
   |exact ih0 _ _ _ _
   |exact ih1 _ _ _ _ _ _ _
   |exact spec_l1All.mono _ _ _ _
   |exact LeO.none _
   |refine LeO.ite ?_ ?_
   |refine LeO.bind ?_ (fun _=> ?_)
theorem spec_pcRises.mono : ∀ a0 a1 a2 k, LeO (spec_pcRises.f k a0 a1 a2) (spec_pcRises.f (k + 1) a0 a1 a2) := by
 intro a0 a1 a2 k;obtain ⟨ih0,ih1⟩:=spec_pcRises.mono_l k;unfold spec_pcRises.f
 repeat' first
  |(with_reducible exact ih0 _ _ _ _)
  |(with_reducible exact ih1 _ _ _ _ _ _ _)
  |(with_reducible exact spec_l1All.mono _ _ _ _)
  |(with_reducible exact LeO.refl _)
  |(with_reducible exact LeO.none _)
  |(with_reducible refine LeO.ite ?_ ?_)
  |(with_reducible refine LeO.bind ?_ (fun _=> ?_))
  |exact ih0 _ _ _ _
  |exact ih1 _ _ _ _ _ _ _
  |exact spec_l1All.mono _ _ _ _
  |exact LeO.none _
  |refine LeO.ite ?_ ?_
  |refine LeO.bind ?_ (fun _=> ?_)
set_option maxHeartbeats 8000000 in
set_option maxRecDepth 100000 in
theorem spec_pcRises.calls (k : Nat) (A0_0 : Option Addr) (c0_0 : Nat) (l0_0 : List Int) (A1 : Option Addr) (c1 : Nat) (l1 : List Int) (a2 : Int) (r : Bool) (w : World) (hr0_0 : Kd.C (Kd.int .i64) w A0_0 l0_0.length l0_0) (hc0_0 : l0_0.length ≤ c0_0) (hr1 : Kd.C (Kd.int .i64) w A1 l1.length l1) (hc1 : l1.length ≤ c1) (h : spec_pcRises.f k l0_0 l1 a2 = some r) :
 Calls Try.prog 90 #[.agg #[.slice A0_0 l0_0.length c0_0], .slice A1 l1.length c1, .int .i64 a2] w fun e w'=>e= .returned (.bool r)∧Below w.heap.size w w':=by
 have hu26:=Try.underlying26;have HR0_0:=Aside0.mk hr0_0;have HC0_0:=Aside0.mk hc0_0;clear hr0_0 hc0_0;have HR1:=Aside0.mk hr1;have HC1:=Aside0.mk hc1;clear hr1 hc1;have HB:=Aside0.mk (Below.refl w.heap.size w);have H:((spec_l1All.f k l1 0 a2).bind fun t424=>(if t424=true then (spec_pcRises.l0 k l1 l0_0 (l0_0.length:Int) 0) else (some false)))=some r:=h;clear h;obtain ⟨t424,A4,H⟩:=bs H;(try dsimp only at H)
 by_cases c5:t424=true
 ·
  subst c5;rw [if_pos rfl] at H;have H':=Aside0.mk H;clear H;go_enter Try.func90,Try.ntmps90;go_wp2_with (first|(refine bE (N:=3) (cs:= #[.slice A0_0 l0_0.length c0_0]) (t:=26) ?_;intro gb423 hg w6 hbox hb;have BK423:=Aside0.mk (hbox);have GW423:=Aside0.mk ((by rw [hg];exact (below_size (uB HB)):w.heap.size≤gb423));have GE423:=GW423;replace HB:=Aside0.mk (below_step (uB HB) hb);clear hb hbox hg)|(go_at_call 121;(with_reducible refine (spec_l1All.calls k _ _ l1 0 a2 true _ (uD HR1 HB) HC1.out A4.out).mono ?_);rintro e w' ⟨rfl,⟨nd,rfl⟩⟩;(try first|exact ⟨rfl,_,World.drewN_drewN _ _ _⟩|exact ⟨rfl,_,Eq.trans (World.drewN_drewN _ _ _) (congrArg (World.drewN _) (Nat.add_assoc _ _ _))⟩);have hcz7_0:=bC BK423;have hfz7_0:=blk_frozen BK423.out 0))
  repeat (go_quiet (first|(refine bE (N:=3) (cs:= #[.slice A0_0 l0_0.length c0_0]) (t:=26) ?_;intro gb423 hg w6 hbox hb;have BK423:=Aside0.mk (hbox);have GW423:=Aside0.mk ((by rw [hg];exact (below_size (uB HB)):w.heap.size≤gb423));have GE423:=GW423;replace HB:=Aside0.mk (below_step (uB HB) hb);clear hb hbox hg)|(go_at_call 121;(with_reducible refine (spec_l1All.calls k _ _ l1 0 a2 true _ (uD HR1 HB) HC1.out A4.out).mono ?_);rintro e w' ⟨rfl,⟨nd,rfl⟩⟩;(try first|exact ⟨rfl,_,World.drewN_drewN _ _ _⟩|exact ⟨rfl,_,Eq.trans (World.drewN_drewN _ _ _) (congrArg (World.drewN _) (Nat.add_assoc _ _ _))⟩);have hcz7_0:=bC BK423;have hfz7_0:=blk_frozen BK423.out 0));try go_wp2_with (first|(refine bE (N:=3) (cs:= #[.slice A0_0 l0_0.length c0_0]) (t:=26) ?_;intro gb423 hg w6 hbox hb;have BK423:=Aside0.mk (hbox);have GW423:=Aside0.mk ((by rw [hg];exact (below_size (uB HB)):w.heap.size≤gb423));have GE423:=GW423;replace HB:=Aside0.mk (below_step (uB HB) hb);clear hb hbox hg)|(go_at_call 121;(with_reducible refine (spec_l1All.calls k _ _ l1 0 a2 true _ (uD HR1 HB) HC1.out A4.out).mono ?_);rintro e w' ⟨rfl,⟨nd,rfl⟩⟩;(try first|exact ⟨rfl,_,World.drewN_drewN _ _ _⟩|exact ⟨rfl,_,Eq.trans (World.drewN_drewN _ _ _) (congrArg (World.drewN _) (Nat.add_assoc _ _ _))⟩);have hcz7_0:=bC BK423;have hfz7_0:=blk_frozen BK423.out 0)))
  go_loopg [17] k (fun kq v17 w'=> ∃ (x17_1:Int),v17= .int .i64 x17_1∧Aside0 (spec_pcRises.l0 kq l1 l0_0 (l0_0.length:Int) x17_1=some r)∧Aside0 (kq≤k)∧Aside0 (w'.heap[gb423]? =some (.cells #[(.slice A0_0 l0_0.length c0_0)] 26 (0,0)))∧Aside0 (Below w.heap.size w w'))
  case atStart=>exact ⟨(0),(by first|rfl|(simp;done)|(simp [*];done)),H',⟨Nat.le_refl _⟩,⟨uK BK423⟩,⟨uB HB⟩⟩
  case round=>
   clear H'
   try clear c1
   try clear p2
   try clear c5
   try clear hcz7_0
   try clear hfz7_0
   obtain ⟨x17_1,rfl,HA,HK1,BK423,HB⟩:=hrel;cases gk with
   |zero=>exact absurd HA.out (by simp [spec_pcRises.l0])
   |succ k1=>
    have H:=HA.out;clear HA;simp only [spec_pcRises.l0] at H
    by_cases c8:x17_1<(l0_0.length:Int)
    ·
     rw [if_pos c8] at H;have c8b0:=decide_eq_true c8;clear c8
     by_cases c9:0≤x17_1
     ·
      rw [if_pos c9] at H;have c9b0:=decide_eq_true c9;clear c9
      by_cases c10:x17_1<(l0_0.length:Int)
      ·
       rw [if_pos c10] at H;have c10b0:=decide_eq_true c10;clear c10;have H':=Aside0.mk H;clear H;have p425:0≤(x17_1:Int):=of_decide_eq_true (by first|(with_reducible assumption)|assumption);have q425:x17_1<(l0_0.length:Int):=of_decide_eq_true (by first|(with_reducible assumption)|assumption);obtain ⟨ad425,e425,hx425_0⟩:=Kd.at_int HR0_0.out x17_1 p425 q425;cases e425;replace hx425_0:=(HB.out.cell (World.block_lt_of_cell? w _ hx425_0)).trans hx425_0;replace p425:=eq_true p425;replace q425:=eq_true q425;go_wp2
       repeat (go_quiet (fail);try go_wp2)
       go_loopg [9] k1 (fun kq v9 w'=> ∃ (x9_2:Int),v9= .int .i64 x9_2∧Aside0 (spec_pcRises.l1 kq l1 x17_1 (rd l0_0 x17_1) x9_2 l0_0 (l0_0.length:Int) x17_1=some r)∧Aside0 (kq≤k1)∧Aside0 (w'.heap[gb423]? =some (.cells #[(.slice (some ad425) l0_0.length c0_0)] 26 (0,0)))∧Aside0 (Below w.heap.size w w'))
       case atStart=>exact ⟨(0),(by first|rfl|(simp;done)|(simp [*];done)),H',⟨Nat.le_refl _⟩,⟨uK BK423⟩,⟨uB HB⟩⟩
       case round=>
        clear H'
        try clear c1
        try clear p2
        try clear p4
        try clear q4
        try clear hx4
        try clear c5
        try clear c8
        try clear c8b0
        try clear c9
        try clear c9b0
        try clear c10
        try clear c10b0
        try clear hcz7_0
        try clear hfz7_0
        try clear hx425_0
        try clear p2
        try clear p425
        try clear q425
        obtain ⟨x9_2,rfl,HA,HK2,BK423,HB⟩:=hrel;cases gk with
        |zero=>exact absurd HA.out (by simp [spec_pcRises.l1])
        |succ k2=>
         have H:=HA.out;clear HA;simp only [spec_pcRises.l1] at H
         by_cases c11:x9_2<x17_1
         ·
          rw [if_pos c11] at H;have c11b0:=decide_eq_true c11;clear c11;obtain ⟨t426,A12,H⟩:=bs H;(try dsimp only at H)
          by_cases c13:t426=true
          ·
           subst c13;rw [if_pos rfl] at H
           by_cases c14:0≤x9_2
           ·
            rw [if_pos c14] at H;have c14b0:=decide_eq_true c14;clear c14
            by_cases c15:x9_2<(l1.length:Int)
            ·
             rw [if_pos c15] at H;have c15b0:=decide_eq_true c15;clear c15
             by_cases c16:0≤x17_1
             ·
              rw [if_pos c16] at H;have c16b0:=decide_eq_true c16;clear c16
              by_cases c17:x17_1<(l1.length:Int)
              ·
               rw [if_pos c17] at H;have c17b0:=decide_eq_true c17;clear c17
               by_cases c18:(rd l1 x9_2)>(rd l1 x17_1)
               ·
                rw [if_pos c18] at H;have c18b0:=decide_eq_true c18;clear c18;obtain rfl:=Option.some.inj H;go_wp2_with (first|(go_at_call 59;(with_reducible refine (spec_poIn.calls (rd l0_0 x17_1) x9_2 true _ A12.out).mono ?_);rintro e w' ⟨rfl,⟨nd,rfl⟩⟩;(try first|exact ⟨rfl,_,World.drewN_drewN _ _ _⟩|exact ⟨rfl,_,Eq.trans (World.drewN_drewN _ _ _) (congrArg (World.drewN _) (Nat.add_assoc _ _ _))⟩);have p427:0≤(x9_2:Int):=of_decide_eq_true (by first|(with_reducible assumption)|assumption);have q427:x9_2<(l1.length:Int):=of_decide_eq_true (by first|(with_reducible assumption)|assumption);obtain ⟨ad427,e427,hx427_0⟩:=Kd.at_int HR1.out x9_2 p427 q427;cases e427;replace hx427_0:=(HB.out.cell (World.block_lt_of_cell? w _ hx427_0)).trans hx427_0;replace p427:=eq_true p427;replace q427:=eq_true q427;have p428:0≤(x17_1:Int):=of_decide_eq_true (by first|(with_reducible assumption)|assumption);have q428:x17_1<(l1.length:Int):=of_decide_eq_true (by first|(with_reducible assumption)|assumption);obtain ⟨ad428,e428,hx428_0⟩:=Kd.at_int HR1.out x17_1 p428 q428;obtain rfl:ad427=ad428:=(by injection e428);replace hx428_0:=(HB.out.cell (World.block_lt_of_cell? w _ hx428_0)).trans hx428_0;replace p428:=eq_true p428;replace q428:=eq_true q428))
                repeat (go_quiet (first|(go_at_call 59;(with_reducible refine (spec_poIn.calls (rd l0_0 x17_1) x9_2 true _ A12.out).mono ?_);rintro e w' ⟨rfl,⟨nd,rfl⟩⟩;(try first|exact ⟨rfl,_,World.drewN_drewN _ _ _⟩|exact ⟨rfl,_,Eq.trans (World.drewN_drewN _ _ _) (congrArg (World.drewN _) (Nat.add_assoc _ _ _))⟩);have p427:0≤(x9_2:Int):=of_decide_eq_true (by first|(with_reducible assumption)|assumption);have q427:x9_2<(l1.length:Int):=of_decide_eq_true (by first|(with_reducible assumption)|assumption);obtain ⟨ad427,e427,hx427_0⟩:=Kd.at_int HR1.out x9_2 p427 q427;cases e427;replace hx427_0:=(HB.out.cell (World.block_lt_of_cell? w _ hx427_0)).trans hx427_0;replace p427:=eq_true p427;replace q427:=eq_true q427;have p428:0≤(x17_1:Int):=of_decide_eq_true (by first|(with_reducible assumption)|assumption);have q428:x17_1<(l1.length:Int):=of_decide_eq_true (by first|(with_reducible assumption)|assumption);obtain ⟨ad428,e428,hx428_0⟩:=Kd.at_int HR1.out x17_1 p428 q428;obtain rfl:ad427=ad428:=(by injection e428);replace hx428_0:=(HB.out.cell (World.block_lt_of_cell? w _ hx428_0)).trans hx428_0;replace p428:=eq_true p428;replace q428:=eq_true q428));try go_wp2_with (first|(go_at_call 59;(with_reducible refine (spec_poIn.calls (rd l0_0 x17_1) x9_2 true _ A12.out).mono ?_);rintro e w' ⟨rfl,⟨nd,rfl⟩⟩;(try first|exact ⟨rfl,_,World.drewN_drewN _ _ _⟩|exact ⟨rfl,_,Eq.trans (World.drewN_drewN _ _ _) (congrArg (World.drewN _) (Nat.add_assoc _ _ _))⟩);have p427:0≤(x9_2:Int):=of_decide_eq_true (by first|(with_reducible assumption)|assumption);have q427:x9_2<(l1.length:Int):=of_decide_eq_true (by first|(with_reducible assumption)|assumption);obtain ⟨ad427,e427,hx427_0⟩:=Kd.at_int HR1.out x9_2 p427 q427;cases e427;replace hx427_0:=(HB.out.cell (World.block_lt_of_cell? w _ hx427_0)).trans hx427_0;replace p427:=eq_true p427;replace q427:=eq_true q427;have p428:0≤(x17_1:Int):=of_decide_eq_true (by first|(with_reducible assumption)|assumption);have q428:x17_1<(l1.length:Int):=of_decide_eq_true (by first|(with_reducible assumption)|assumption);obtain ⟨ad428,e428,hx428_0⟩:=Kd.at_int HR1.out x17_1 p428 q428;obtain rfl:ad427=ad428:=(by injection e428);replace hx428_0:=(HB.out.cell (World.block_lt_of_cell? w _ hx428_0)).trans hx428_0;replace p428:=eq_true p428;replace q428:=eq_true q428)))
                go_ret
                exact ⟨by first|rfl|(simp [errW_none,errW_some] <;>rfl)|(simp [*,errW_none,errW_some] <;>rfl),uB HB⟩
               ·
                rw [if_neg c18] at H;have c18b0:=decide_eq_false c18;clear c18;have H':=Aside0.mk H;clear H;go_wp2_with (first|(go_at_call 59;(with_reducible refine (spec_poIn.calls (rd l0_0 x17_1) x9_2 true _ A12.out).mono ?_);rintro e w' ⟨rfl,⟨nd,rfl⟩⟩;(try first|exact ⟨rfl,_,World.drewN_drewN _ _ _⟩|exact ⟨rfl,_,Eq.trans (World.drewN_drewN _ _ _) (congrArg (World.drewN _) (Nat.add_assoc _ _ _))⟩);have p427:0≤(x9_2:Int):=of_decide_eq_true (by first|(with_reducible assumption)|assumption);have q427:x9_2<(l1.length:Int):=of_decide_eq_true (by first|(with_reducible assumption)|assumption);obtain ⟨ad427,e427,hx427_0⟩:=Kd.at_int HR1.out x9_2 p427 q427;cases e427;replace hx427_0:=(HB.out.cell (World.block_lt_of_cell? w _ hx427_0)).trans hx427_0;replace p427:=eq_true p427;replace q427:=eq_true q427;have p428:0≤(x17_1:Int):=of_decide_eq_true (by first|(with_reducible assumption)|assumption);have q428:x17_1<(l1.length:Int):=of_decide_eq_true (by first|(with_reducible assumption)|assumption);obtain ⟨ad428,e428,hx428_0⟩:=Kd.at_int HR1.out x17_1 p428 q428;obtain rfl:ad427=ad428:=(by injection e428);replace hx428_0:=(HB.out.cell (World.block_lt_of_cell? w _ hx428_0)).trans hx428_0;replace p428:=eq_true p428;replace q428:=eq_true q428))
                repeat (go_quiet (first|(go_at_call 59;(with_reducible refine (spec_poIn.calls (rd l0_0 x17_1) x9_2 true _ A12.out).mono ?_);rintro e w' ⟨rfl,⟨nd,rfl⟩⟩;(try first|exact ⟨rfl,_,World.drewN_drewN _ _ _⟩|exact ⟨rfl,_,Eq.trans (World.drewN_drewN _ _ _) (congrArg (World.drewN _) (Nat.add_assoc _ _ _))⟩);have p427:0≤(x9_2:Int):=of_decide_eq_true (by first|(with_reducible assumption)|assumption);have q427:x9_2<(l1.length:Int):=of_decide_eq_true (by first|(with_reducible assumption)|assumption);obtain ⟨ad427,e427,hx427_0⟩:=Kd.at_int HR1.out x9_2 p427 q427;cases e427;replace hx427_0:=(HB.out.cell (World.block_lt_of_cell? w _ hx427_0)).trans hx427_0;replace p427:=eq_true p427;replace q427:=eq_true q427;have p428:0≤(x17_1:Int):=of_decide_eq_true (by first|(with_reducible assumption)|assumption);have q428:x17_1<(l1.length:Int):=of_decide_eq_true (by first|(with_reducible assumption)|assumption);obtain ⟨ad428,e428,hx428_0⟩:=Kd.at_int HR1.out x17_1 p428 q428;obtain rfl:ad427=ad428:=(by injection e428);replace hx428_0:=(HB.out.cell (World.block_lt_of_cell? w _ hx428_0)).trans hx428_0;replace p428:=eq_true p428;replace q428:=eq_true q428));try go_wp2_with (first|(go_at_call 59;(with_reducible refine (spec_poIn.calls (rd l0_0 x17_1) x9_2 true _ A12.out).mono ?_);rintro e w' ⟨rfl,⟨nd,rfl⟩⟩;(try first|exact ⟨rfl,_,World.drewN_drewN _ _ _⟩|exact ⟨rfl,_,Eq.trans (World.drewN_drewN _ _ _) (congrArg (World.drewN _) (Nat.add_assoc _ _ _))⟩);have p427:0≤(x9_2:Int):=of_decide_eq_true (by first|(with_reducible assumption)|assumption);have q427:x9_2<(l1.length:Int):=of_decide_eq_true (by first|(with_reducible assumption)|assumption);obtain ⟨ad427,e427,hx427_0⟩:=Kd.at_int HR1.out x9_2 p427 q427;cases e427;replace hx427_0:=(HB.out.cell (World.block_lt_of_cell? w _ hx427_0)).trans hx427_0;replace p427:=eq_true p427;replace q427:=eq_true q427;have p428:0≤(x17_1:Int):=of_decide_eq_true (by first|(with_reducible assumption)|assumption);have q428:x17_1<(l1.length:Int):=of_decide_eq_true (by first|(with_reducible assumption)|assumption);obtain ⟨ad428,e428,hx428_0⟩:=Kd.at_int HR1.out x17_1 p428 q428;obtain rfl:ad427=ad428:=(by injection e428);replace hx428_0:=(HB.out.cell (World.block_lt_of_cell? w _ hx428_0)).trans hx428_0;replace p428:=eq_true p428;replace q428:=eq_true q428)))
                go_roundg k2
                case measure=>have:=HK1.out;have:=HK2.out;omega
                case rel=>exact ⟨(wrap64 (x9_2+1)),(by first|rfl|(simp;done)|(simp [*];done)),H',⟨by have:=HK1.out;have:=HK2.out;omega⟩,⟨uK BK423⟩,⟨uB HB⟩⟩
              ·
               rw [if_neg c17] at H;exact absurd H (by simp)
             ·
              rw [if_neg c16] at H;exact absurd H (by simp)
            ·
             rw [if_neg c15] at H;exact absurd H (by simp)
           ·
            rw [if_neg c14] at H;exact absurd H (by simp)
          ·
           replace c13:=Bool.eq_false_iff.mpr c13;subst c13;rw [if_neg (show ¬ (false=true) by decide)] at H;have H':=Aside0.mk H;clear H;go_wp2_with (first|(go_at_call 59;(with_reducible refine (spec_poIn.calls (rd l0_0 x17_1) x9_2 false _ A12.out).mono ?_);rintro e w' ⟨rfl,⟨nd,rfl⟩⟩;(try first|exact ⟨rfl,_,World.drewN_drewN _ _ _⟩|exact ⟨rfl,_,Eq.trans (World.drewN_drewN _ _ _) (congrArg (World.drewN _) (Nat.add_assoc _ _ _))⟩)))
           repeat (go_quiet (first|(go_at_call 59;(with_reducible refine (spec_poIn.calls (rd l0_0 x17_1) x9_2 false _ A12.out).mono ?_);rintro e w' ⟨rfl,⟨nd,rfl⟩⟩;(try first|exact ⟨rfl,_,World.drewN_drewN _ _ _⟩|exact ⟨rfl,_,Eq.trans (World.drewN_drewN _ _ _) (congrArg (World.drewN _) (Nat.add_assoc _ _ _))⟩)));try go_wp2_with (first|(go_at_call 59;(with_reducible refine (spec_poIn.calls (rd l0_0 x17_1) x9_2 false _ A12.out).mono ?_);rintro e w' ⟨rfl,⟨nd,rfl⟩⟩;(try first|exact ⟨rfl,_,World.drewN_drewN _ _ _⟩|exact ⟨rfl,_,Eq.trans (World.drewN_drewN _ _ _) (congrArg (World.drewN _) (Nat.add_assoc _ _ _))⟩))))
           go_roundg k2
           case measure=>have:=HK1.out;have:=HK2.out;omega
           case rel=>exact ⟨(wrap64 (x9_2+1)),(by first|rfl|(simp;done)|(simp [*];done)),H',⟨by have:=HK1.out;have:=HK2.out;omega⟩,⟨uK BK423⟩,⟨uB HB⟩⟩
         ·
          rw [if_neg c11] at H;have c11b0:=decide_eq_false c11;clear c11;have H':=Aside0.mk H;clear H;go_wp2
          repeat (go_quiet (fail);try go_wp2)
          go_roundg k2
          case measure=>have:=HK1.out;have:=HK2.out;omega
          case rel=>exact ⟨(wrap64 (x17_1+1)),(by first|rfl|(simp;done)|(simp [*];done)),H',⟨by have:=HK1.out;have:=HK2.out;omega⟩,⟨uK BK423⟩,⟨uB HB⟩⟩
      ·
       rw [if_neg c10] at H;exact absurd H (by simp)
     ·
      rw [if_neg c9] at H;exact absurd H (by simp)
    ·
     rw [if_neg c8] at H;have c8b0:=decide_eq_false c8;clear c8;obtain rfl:=Option.some.inj H;go_wp2
     repeat (go_quiet (fail);try go_wp2)
     go_ret
     exact ⟨by first|rfl|(simp [errW_none,errW_some] <;>rfl)|(simp [*,errW_none,errW_some] <;>rfl),uB HB⟩
 ·
  replace c5:=Bool.eq_false_iff.mpr c5;subst c5;rw [if_neg (show ¬ (false=true) by decide)] at H;obtain rfl:=Option.some.inj H;go_enter Try.func90,Try.ntmps90;go_wp2_with (first|(refine bE (N:=3) (cs:= #[.slice A0_0 l0_0.length c0_0]) (t:=26) ?_;intro gb423 hg w19 hbox hb;have BK423:=Aside0.mk (hbox);have GW423:=Aside0.mk ((by rw [hg];exact (below_size (uB HB)):w.heap.size≤gb423));have GE423:=GW423;replace HB:=Aside0.mk (below_step (uB HB) hb);clear hb hbox hg)|(go_at_call 121;(with_reducible refine (spec_l1All.calls k _ _ l1 0 a2 false _ (uD HR1 HB) HC1.out A4.out).mono ?_);rintro e w' ⟨rfl,⟨nd,rfl⟩⟩;(try first|exact ⟨rfl,_,World.drewN_drewN _ _ _⟩|exact ⟨rfl,_,Eq.trans (World.drewN_drewN _ _ _) (congrArg (World.drewN _) (Nat.add_assoc _ _ _))⟩)))
  repeat (go_quiet (first|(refine bE (N:=3) (cs:= #[.slice A0_0 l0_0.length c0_0]) (t:=26) ?_;intro gb423 hg w19 hbox hb;have BK423:=Aside0.mk (hbox);have GW423:=Aside0.mk ((by rw [hg];exact (below_size (uB HB)):w.heap.size≤gb423));have GE423:=GW423;replace HB:=Aside0.mk (below_step (uB HB) hb);clear hb hbox hg)|(go_at_call 121;(with_reducible refine (spec_l1All.calls k _ _ l1 0 a2 false _ (uD HR1 HB) HC1.out A4.out).mono ?_);rintro e w' ⟨rfl,⟨nd,rfl⟩⟩;(try first|exact ⟨rfl,_,World.drewN_drewN _ _ _⟩|exact ⟨rfl,_,Eq.trans (World.drewN_drewN _ _ _) (congrArg (World.drewN _) (Nat.add_assoc _ _ _))⟩)));try go_wp2_with (first|(refine bE (N:=3) (cs:= #[.slice A0_0 l0_0.length c0_0]) (t:=26) ?_;intro gb423 hg w19 hbox hb;have BK423:=Aside0.mk (hbox);have GW423:=Aside0.mk ((by rw [hg];exact (below_size (uB HB)):w.heap.size≤gb423));have GE423:=GW423;replace HB:=Aside0.mk (below_step (uB HB) hb);clear hb hbox hg)|(go_at_call 121;(with_reducible refine (spec_l1All.calls k _ _ l1 0 a2 false _ (uD HR1 HB) HC1.out A4.out).mono ?_);rintro e w' ⟨rfl,⟨nd,rfl⟩⟩;(try first|exact ⟨rfl,_,World.drewN_drewN _ _ _⟩|exact ⟨rfl,_,Eq.trans (World.drewN_drewN _ _ _) (congrArg (World.drewN _) (Nat.add_assoc _ _ _))⟩))))
  go_ret
  exact ⟨by first|rfl|(simp [errW_none,errW_some] <;>rfl)|(simp [*,errW_none,errW_some] <;>rfl),uB HB⟩
def spec_pcIs.f (k : Nat) (l0_0 : List Int) (l1 : List Int) (a2 : Int) : Option (Bool) := (spec_poGood.f k l0_0).bind fun t430 => (if t430 = true then ((spec_pcBound.f a2).bind fun t431 => (if t431 = true then (if (l1.length : Int) = (l0_0.length : Int) then ((spec_pcRises.f k l0_0 l1 a2).bind fun t432 => (some t432)) else (some false)) else (some false))) else (some false))
theorem spec_pcIs.mono : ∀ a0 a1 a2 k, LeO (spec_pcIs.f k a0 a1 a2) (spec_pcIs.f (k + 1) a0 a1 a2) := by
 intro a0 a1 a2 k;unfold spec_pcIs.f
 repeat' first
  |(with_reducible exact spec_pcRises.mono _ _ _ _)
  |(with_reducible exact spec_poGood.mono _ _)
  |(with_reducible exact LeO.refl _)
  |(with_reducible exact LeO.none _)
  |(with_reducible refine LeO.ite ?_ ?_)
  |(with_reducible refine LeO.bind ?_ (fun _=> ?_))
  |exact spec_pcRises.mono _ _ _ _
  |exact spec_poGood.mono _ _
  |exact LeO.none _
  |refine LeO.ite ?_ ?_
  |refine LeO.bind ?_ (fun _=> ?_)
set_option maxHeartbeats 8000000 in
set_option maxRecDepth 100000 in
theorem spec_pcIs.calls (k : Nat) (A0_0 : Option Addr) (c0_0 : Nat) (l0_0 : List Int) (A1 : Option Addr) (c1 : Nat) (l1 : List Int) (a2 : Int) (r : Bool) (w : World) (hr0_0 : Kd.C (Kd.int .i64) w A0_0 l0_0.length l0_0) (hc0_0 : l0_0.length ≤ c0_0) (hr1 : Kd.C (Kd.int .i64) w A1 l1.length l1) (hc1 : l1.length ≤ c1) (h : spec_pcIs.f k l0_0 l1 a2 = some r) :
 Calls Try.prog 69 #[.agg #[.slice A0_0 l0_0.length c0_0], .slice A1 l1.length c1, .int .i64 a2] w fun e w'=>e= .returned (.bool r)∧Below w.heap.size w w':=by
 have hu26:=Try.underlying26;have HR0_0:=Aside0.mk hr0_0;have HC0_0:=Aside0.mk hc0_0;clear hr0_0 hc0_0;have HR1:=Aside0.mk hr1;have HC1:=Aside0.mk hc1;clear hr1 hc1;have HB:=Aside0.mk (Below.refl w.heap.size w);have H:((spec_poGood.f k l0_0).bind fun t430=>(if t430=true then ((spec_pcBound.f a2).bind fun t431=>(if t431=true then (if (l1.length:Int)=(l0_0.length:Int) then ((spec_pcRises.f k l0_0 l1 a2).bind fun t432=>(some t432)) else (some false)) else (some false))) else (some false)))=some r:=h;clear h;obtain ⟨t430,A4,H⟩:=bs H;(try dsimp only at H)
 by_cases c5:t430=true
 ·
  subst c5;rw [if_pos rfl] at H;obtain ⟨t431,A6,H⟩:=bs H;(try dsimp only at H)
  by_cases c7:t431=true
  ·
   subst c7;rw [if_pos rfl] at H
   by_cases c8:(l1.length:Int)=(l0_0.length:Int)
   ·
    rw [if_pos c8] at H;have c8b0:((l1.length:Int)==(l0_0.length:Int))=true:=beq_iff_eq.mpr c8;have c8b1:((l1.length:Int) !=(l0_0.length:Int))=false:=bne_eq_false_iff_eq.mpr c8;have c8b2:(l1.length==l0_0.length)=true:=by first|simpa using c8|(simp at c8 ⊢;omega)
    clear c8;obtain ⟨t432,A9,H⟩:=bs H;(try dsimp only at H)
    obtain rfl:=Option.some.inj H;go_enter Try.func69,Try.ntmps69;go_wp2_with (first|((with_reducible refine gate_dst (N:=3) rfl ?_);(try (refine gate_guard (by rfl) ?_;dsimp only));refine bE (N:=3) (cs:= #[.slice A0_0 l0_0.length c0_0]) (t:=26) ?_;intro gb429 hg w10 hbox hb;have BK429:=Aside0.mk (hbox);have GW429:=Aside0.mk ((by rw [hg];exact (below_size (uB HB)):w.heap.size≤gb429));have GE429:=GW429;replace HB:=Aside0.mk (below_step (uB HB) hb);clear hb hbox hg;have hcz11_0:=bC BK429;have hfz11_0:=blk_frozen BK429.out 0)|(refine gA (some 8) Try.func88 #[.agg #[.slice A0_0 l0_0.length c0_0]] ?_;(with_reducible refine (spec_poGood.calls k _ _ l0_0 true _ (uD HR0_0 HB) HC0_0.out A4.out).mono ?_);rintro e w12 ⟨rfl,hb⟩;refine ⟨_,rfl,?_⟩;replace BK429:=Aside0.mk (blk_below (uK BK429) hb);replace HB:=Aside0.mk (below_step (uB HB) hb);(try clear hb))|(go_at_call 89;(with_reducible refine (spec_pcBound.calls a2 true _ A6.out).mono ?_);rintro e w' ⟨rfl,⟨nd,rfl⟩⟩;have hcz13_0:=bC BK429;have hfz13_0:=blk_frozen BK429.out 0)|(go_at_call 90;(with_reducible refine (spec_pcRises.calls k _ _ l0_0 _ _ l1 a2 t432 _ ?side1 HC0_0.out ?side3 HC1.out A9.out).mono ?_);(case side1=>repeat (first|exact (Kd.C_below HR0_0.out (uB HB))|(with_reducible refine Kd.C_alloc ?_ _)|(with_reducible refine Kd.C_drewN ?_ _)|(with_reducible refine Kd.C_drew ?_)));(case side3=>repeat (first|exact (Kd.C_below HR1.out (uB HB))|(with_reducible refine Kd.C_alloc ?_ _)|(with_reducible refine Kd.C_drewN ?_ _)|(with_reducible refine Kd.C_drew ?_)));rintro e w14 ⟨rfl,hb⟩;replace BK429:=Aside0.mk (blk_below (uK BK429) hb);replace HB:=Aside0.mk (below_step (uB HB) hb);(try clear hb)))
    go_ret
    exact ⟨by first|rfl|(simp [errW_none,errW_some] <;>rfl)|(simp [*,errW_none,errW_some] <;>rfl),uB HB⟩
   ·
    rw [if_neg c8] at H;have c8b0:((l1.length:Int)==(l0_0.length:Int))=false:=beq_eq_false_iff_ne.mpr c8;have c8b1:((l1.length:Int) !=(l0_0.length:Int))=true:=bne_iff_ne.mpr c8;have c8b2:(l1.length==l0_0.length)=false:=by first|simpa using c8|(simp at c8 ⊢;omega)
    obtain rfl:=Option.some.inj H;go_enter Try.func69,Try.ntmps69;go_wp2_with (first|((with_reducible refine gate_dst (N:=3) rfl ?_);(try (refine gate_guard (by rfl) ?_;dsimp only));refine bE (N:=3) (cs:= #[.slice A0_0 l0_0.length c0_0]) (t:=26) ?_;intro gb429 hg w15 hbox hb;have BK429:=Aside0.mk (hbox);have GW429:=Aside0.mk ((by rw [hg];exact (below_size (uB HB)):w.heap.size≤gb429));have GE429:=GW429;replace HB:=Aside0.mk (below_step (uB HB) hb);clear hb hbox hg;have hcz16_0:=bC BK429;have hfz16_0:=blk_frozen BK429.out 0)|(refine gA (some 8) Try.func88 #[.agg #[.slice A0_0 l0_0.length c0_0]] ?_;(with_reducible refine (spec_poGood.calls k _ _ l0_0 true _ (uD HR0_0 HB) HC0_0.out A4.out).mono ?_);rintro e w17 ⟨rfl,hb⟩;refine ⟨_,rfl,?_⟩;replace BK429:=Aside0.mk (blk_below (uK BK429) hb);replace HB:=Aside0.mk (below_step (uB HB) hb);(try clear hb))|(go_at_call 89;(with_reducible refine (spec_pcBound.calls a2 true _ A6.out).mono ?_);rintro e w' ⟨rfl,⟨nd,rfl⟩⟩;have hcz18_0:=bC BK429;have hfz18_0:=blk_frozen BK429.out 0))
    go_ret
    exact ⟨by first|rfl|(simp [errW_none,errW_some] <;>rfl)|(simp [*,errW_none,errW_some] <;>rfl),uB HB⟩
  ·
   replace c7:=Bool.eq_false_iff.mpr c7;subst c7;rw [if_neg (show ¬ (false=true) by decide)] at H;obtain rfl:=Option.some.inj H;go_enter Try.func69,Try.ntmps69;go_wp2_with (first|((with_reducible refine gate_dst (N:=3) rfl ?_);(try (refine gate_guard (by rfl) ?_;dsimp only));refine bE (N:=3) (cs:= #[.slice A0_0 l0_0.length c0_0]) (t:=26) ?_;intro gb429 hg w19 hbox hb;have BK429:=Aside0.mk (hbox);have GW429:=Aside0.mk ((by rw [hg];exact (below_size (uB HB)):w.heap.size≤gb429));have GE429:=GW429;replace HB:=Aside0.mk (below_step (uB HB) hb);clear hb hbox hg;have hcz20_0:=bC BK429;have hfz20_0:=blk_frozen BK429.out 0)|(refine gA (some 8) Try.func88 #[.agg #[.slice A0_0 l0_0.length c0_0]] ?_;(with_reducible refine (spec_poGood.calls k _ _ l0_0 true _ (uD HR0_0 HB) HC0_0.out A4.out).mono ?_);rintro e w21 ⟨rfl,hb⟩;refine ⟨_,rfl,?_⟩;replace BK429:=Aside0.mk (blk_below (uK BK429) hb);replace HB:=Aside0.mk (below_step (uB HB) hb);(try clear hb))|(go_at_call 89;(with_reducible refine (spec_pcBound.calls a2 false _ A6.out).mono ?_);rintro e w' ⟨rfl,⟨nd,rfl⟩⟩))
   go_ret
   exact ⟨by first|rfl|(simp [errW_none,errW_some] <;>rfl)|(simp [*,errW_none,errW_some] <;>rfl),uB HB⟩
 ·
  replace c5:=Bool.eq_false_iff.mpr c5;subst c5;rw [if_neg (show ¬ (false=true) by decide)] at H;obtain rfl:=Option.some.inj H;go_enter Try.func69,Try.ntmps69;go_wp2_with (first|((with_reducible refine gate_dst (N:=3) rfl ?_);(try (refine gate_guard (by rfl) ?_;dsimp only));refine bE (N:=3) (cs:= #[.slice A0_0 l0_0.length c0_0]) (t:=26) ?_;intro gb429 hg w22 hbox hb;have BK429:=Aside0.mk (hbox);have GW429:=Aside0.mk ((by rw [hg];exact (below_size (uB HB)):w.heap.size≤gb429));have GE429:=GW429;replace HB:=Aside0.mk (below_step (uB HB) hb);clear hb hbox hg;have hcz23_0:=bC BK429;have hfz23_0:=blk_frozen BK429.out 0)|(refine gA (some 8) Try.func88 #[.agg #[.slice A0_0 l0_0.length c0_0]] ?_;(with_reducible refine (spec_poGood.calls k _ _ l0_0 false _ (uD HR0_0 HB) HC0_0.out A4.out).mono ?_);rintro e w24 ⟨rfl,hb⟩;refine ⟨_,rfl,?_⟩;replace BK429:=Aside0.mk (blk_below (uK BK429) hb);replace HB:=Aside0.mk (below_step (uB HB) hb);(try clear hb)))
  go_ret
  exact ⟨by first|rfl|(simp [errW_none,errW_some] <;>rfl)|(simp [*,errW_none,errW_some] <;>rfl),uB HB⟩
def spec_tgElement.f (l0_0 : List Int) (a1 : Int) : Option (Bool) := (spec_l1In.f a1 0 (wrap64 ((l0_0.length : Int) - 1))).bind fun t434 => (some t434)
set_option maxHeartbeats 8000000 in
set_option maxRecDepth 100000 in
theorem spec_tgElement.calls (A0_0 : Option Addr) (c0_0 : Nat) (l0_0 : List Int) (a1 : Int) (r : Bool) (w : World) (hr0_0 : Kd.C (Kd.int .i64) w A0_0 l0_0.length l0_0) (hc0_0 : l0_0.length ≤ c0_0) (h : spec_tgElement.f l0_0 a1 = some r) :
 Calls Try.prog 79 #[.agg #[.slice A0_0 l0_0.length c0_0], .int .i64 a1] w fun e w'=>e= .returned (.bool r)∧Below w.heap.size w w':=by
 have hu26:=Try.underlying26;have HR0_0:=Aside0.mk hr0_0;have HC0_0:=Aside0.mk hc0_0;clear hr0_0 hc0_0;have HB:=Aside0.mk (Below.refl w.heap.size w);have H:((spec_l1In.f a1 0 (wrap64 ((l0_0.length:Int) - 1))).bind fun t434=>(some t434))=some r:=h;clear h;obtain ⟨t434,A3,H⟩:=bs H;(try dsimp only at H)
 obtain rfl:=Option.some.inj H;go_enter Try.func79,Try.ntmps79;go_wp2_with (first|(refine bE (N:=2) (cs:= #[.slice A0_0 l0_0.length c0_0]) (t:=26) ?_;intro gb433 hg w4 hbox hb;have BK433:=Aside0.mk (hbox);have GW433:=Aside0.mk ((by rw [hg];exact (below_size (uB HB)):w.heap.size≤gb433));have GE433:=GW433;replace HB:=Aside0.mk (below_step (uB HB) hb);clear hb hbox hg;have hcz5_0:=bC BK433;have hfz5_0:=blk_frozen BK433.out 0)|(refine gA (some 10) Try.func95 #[.int .i64 a1, .int .i64 0, .int .i64 (wrap64 ((l0_0.length:Int) - 1))] ?_;(with_reducible refine (spec_l1In.calls a1 0 (wrap64 ((l0_0.length:Int) - 1)) t434 _ A3.out).mono ?_);rintro e w' ⟨rfl,⟨nd,rfl⟩⟩;refine ⟨_,rfl,?_⟩))
 go_ret
 exact ⟨by first|rfl|(simp [errW_none,errW_some] <;>rfl)|(simp [*,errW_none,errW_some] <;>rfl),uB HB⟩
mutual
def spec_pcRange.l0 : Nat → List Int → Int → Int → Int → Int → Int → List Int → Option (Int × Int)
 |0,_,_,_,_,_,_,_=>none
 |k+1,x1,x3,x10,x11,x16,x17,x436000=>if x17<x16 then (if 0≤x3 then (if x3<(x436000.length:Int) then ((spec_poIn.f (rd x436000 x3) x17).bind fun t437=>(if t437=true then (if 0≤x17 then (if x17<(x1.length:Int) then ((spec_l1Most.f x10 (rd x1 x17)).bind fun t439=>(spec_pcRange.j1 k x1 x3 t439 x11 x17 x16 x17 x436000)) else (none)) else (none)) else (spec_pcRange.j1 k x1 x3 x10 x11 x17 x16 x17 x436000))) else (none)) else (none)) else (some (x10,x11))
def spec_pcRange.j1 : Nat → List Int → Int → Int → Int → Int → Int → Int → List Int → Option (Int × Int)
 |0,_,_,_,_,_,_,_,_=>none
 |k+1,x1,x3,x10,x11,x12,x16,x17,x436000=>if 0≤x12 then (if x12<(x436000.length:Int) then ((spec_poIn.f (rd x436000 x12) x3).bind fun t441=>(if t441=true then (if x12<(x1.length:Int) then ((spec_l1Least.f x11 (rd x1 x12)).bind fun t443=>(spec_pcRange.l0 k x1 x3 x10 t443 x16 (wrap64 (x17+1)) x436000)) else (none)) else (spec_pcRange.l0 k x1 x3 x10 x11 x16 (wrap64 (x17+1)) x436000))) else (none)) else (none)
end
def spec_pcRange.f (k : Nat) (l0_0 : List Int) (l1 : List Int) (a2 : Int) (a3 : Int) : Option (Int × Int) := spec_pcRange.l0 k l1 a3 0 a2 (l0_0.length : Int) 0 l0_0
theorem spec_pcRange.mono_l : ∀ k, (∀ y0 y1 y2 y3 y4 y5 y6, LeO (spec_pcRange.l0 k y0 y1 y2 y3 y4 y5 y6) (spec_pcRange.l0 (k + 1) y0 y1 y2 y3 y4 y5 y6)) ∧ (∀ y0 y1 y2 y3 y4 y5 y6 y7, LeO (spec_pcRange.j1 k y0 y1 y2 y3 y4 y5 y6 y7) (spec_pcRange.j1 (k + 1) y0 y1 y2 y3 y4 y5 y6 y7))
 |0=>⟨fun _ _ _ _ _ _ _ r h=>by simp [spec_pcRange.l0] at h,fun _ _ _ _ _ _ _ _ r h=>by simp [spec_pcRange.j1] at h⟩
 |k+1=>by
  obtain ⟨ih0,ih1⟩:=spec_pcRange.mono_l k;refine ⟨?_,?_⟩
  ·
   intro y0 y1 y2 y3 y4 y5 y6;unfold spec_pcRange.l0
   repeat' first
   |(with_reducible exact ih0 _ _ _ _ _ _ _)
   |(with_reducible exact ih1 _ _ _ _ _ _ _ _)
   |(with_reducible exact LeO.refl _)
   |(with_reducible exact LeO.none _)
   |(with_reducible refine LeO.ite ?_ ?_)
   |(with_reducible refine LeO.bind ?_ (fun _=> ?_))
   |exact ih0 _ _ _ _ _ _ _
   |exact ih1 _ _ _ _ _ _ _ _
   |exact LeO.none _
   |refine LeO.ite ?_ ?_
   |refine LeO.bind ?_ (fun _=> ?_)
  ·
   intro y0 y1 y2 y3 y4 y5 y6 y7;unfold spec_pcRange.j1
   repeat' first
   |(with_reducible exact ih0 _ _ _ _ _ _ _)
   |(with_reducible exact ih1 _ _ _ _ _ _ _ _)
   |(with_reducible exact LeO.refl _)
   |(with_reducible exact LeO.none _)
   |(with_reducible refine LeO.ite ?_ ?_)
   |(with_reducible refine LeO.bind ?_ (fun _=> ?_))
   |exact ih0 _ _ _ _ _ _ _
   |exact ih1 _ _ _ _ _ _ _ _
   |exact LeO.none _
   |refine LeO.ite ?_ ?_
   |refine LeO.bind ?_ (fun _=> ?_)
theorem spec_pcRange.mono : ∀ a0 a1 a2 a3 k, LeO (spec_pcRange.f k a0 a1 a2 a3) (spec_pcRange.f (k + 1) a0 a1 a2 a3) := by
 intro a0 a1 a2 a3 k;obtain ⟨ih0,ih1⟩:=spec_pcRange.mono_l k;unfold spec_pcRange.f
 repeat' first
  |(with_reducible exact ih0 _ _ _ _ _ _ _)
  |(with_reducible exact ih1 _ _ _ _ _ _ _ _)
  |(with_reducible exact LeO.refl _)
  |(with_reducible exact LeO.none _)
  |(with_reducible refine LeO.ite ?_ ?_)
  |(with_reducible refine LeO.bind ?_ (fun _=> ?_))
  |exact ih0 _ _ _ _ _ _ _
  |exact ih1 _ _ _ _ _ _ _ _
  |exact LeO.none _
  |refine LeO.ite ?_ ?_
  |refine LeO.bind ?_ (fun _=> ?_)
set_option maxHeartbeats 8000000 in
set_option maxRecDepth 100000 in
theorem spec_pcRange.calls (k : Nat) (A0_0 : Option Addr) (c0_0 : Nat) (l0_0 : List Int) (A1 : Option Addr) (c1 : Nat) (l1 : List Int) (a2 : Int) (a3 : Int) (r1 : Int) (r2 : Int) (w : World) (hr0_0 : Kd.C (Kd.int .i64) w A0_0 l0_0.length l0_0) (hc0_0 : l0_0.length ≤ c0_0) (hr1 : Kd.C (Kd.int .i64) w A1 l1.length l1) (hc1 : l1.length ≤ c1) (h : spec_pcRange.f k l0_0 l1 a2 a3 = some (r1, r2)) :
 Calls Try.prog 83 #[.agg #[.slice A0_0 l0_0.length c0_0], .slice A1 l1.length c1, .int .i64 a2, .int .i64 a3] w fun e w'=>e= .returned (.tuple #[.int .i64 r1, .int .i64 r2])∧Below w.heap.size w w':=by
 have hu26:=Try.underlying26;have HR0_0:=Aside0.mk hr0_0;have HC0_0:=Aside0.mk hc0_0;clear hr0_0 hc0_0;have HR1:=Aside0.mk hr1;have HC1:=Aside0.mk hc1;clear hr1 hc1;have HB:=Aside0.mk (Below.refl w.heap.size w);have H:(spec_pcRange.l0 k l1 a3 0 a2 (l0_0.length:Int) 0 l0_0)=some (r1,r2):=h;clear h;have H':=Aside0.mk H;clear H;go_enter Try.func83,Try.ntmps83;go_wp2_with (first|(refine bE (N:=4) (cs:= #[.slice A0_0 l0_0.length c0_0]) (t:=26) ?_;intro gb435 hg w5 hbox hb;have BK435:=Aside0.mk (hbox);have GW435:=Aside0.mk ((by rw [hg];exact (below_size (uB HB)):w.heap.size≤gb435));have GE435:=GW435;replace HB:=Aside0.mk (below_step (uB HB) hb);clear hb hbox hg;have hcz6_0:=bC BK435;have hfz6_0:=blk_frozen BK435.out 0))
 go_loopg [10,11,17] k (fun kq v10 v11 v17 w'=> ∃ (x10_1:Int) (x11_1:Int) (x17_1:Int),v10= .int .i64 x10_1∧v11= .int .i64 x11_1∧v17= .int .i64 x17_1∧Aside0 (spec_pcRange.l0 kq l1 a3 x10_1 x11_1 (l0_0.length:Int) x17_1 l0_0=some (r1,r2))∧Aside0 (kq≤k)∧Aside0 (w'.heap[gb435]? =some (.cells #[(.slice A0_0 l0_0.length c0_0)] 26 (0,0)))∧Aside0 (Below w.heap.size w w'))
 case atStart=>exact ⟨(0),(a2),(0),(by first|rfl|(simp;done)|(simp [*];done)),(by first|rfl|(simp;done)|(simp [*];done)),(by first|rfl|(simp;done)|(simp [*];done)),H',⟨Nat.le_refl _⟩,⟨uK BK435⟩,⟨uB HB⟩⟩
 case round=>
  clear H'
  try clear c1
  try clear p2
  try clear hcz6_0
  try clear hfz6_0
  obtain ⟨x10_1,x11_1,x17_1,rfl,rfl,rfl,HA,HK1,BK435,HB⟩:=hrel;cases gk with
  |zero=>exact absurd HA.out (by simp [spec_pcRange.l0])
  |succ k1=>
   have H:=HA.out;clear HA;simp only [spec_pcRange.l0] at H
   by_cases c7:x17_1<(l0_0.length:Int)
   ·
    rw [if_pos c7] at H;have c7b0:=decide_eq_true c7;clear c7
    by_cases c8:0≤a3
    ·
     rw [if_pos c8] at H;have c8b0:=decide_eq_true c8;clear c8
     by_cases c9:a3<(l0_0.length:Int)
     ·
      rw [if_pos c9] at H;have c9b0:=decide_eq_true c9;clear c9;obtain ⟨t437,A10,H⟩:=bs H;(try dsimp only at H)
      have HC11:=Aside0.mk H;clear H;have hcz12_0:=bC BK435;have hfz12_0:=blk_frozen BK435.out 0;have p436:0≤(a3:Int):=of_decide_eq_true (by first|(with_reducible assumption)|assumption);have q436:a3<(l0_0.length:Int):=of_decide_eq_true (by first|(with_reducible assumption)|assumption);obtain ⟨ad436,e436,hx436_0⟩:=Kd.at_int HR0_0.out a3 p436 q436;cases e436;replace hx436_0:=(HB.out.cell (World.block_lt_of_cell? w _ hx436_0)).trans hx436_0;replace p436:=eq_true p436;replace q436:=eq_true q436
      go_upto_if 26 with (first|(refine gA (some 26) Try.func59 #[.int .i64 (rd l0_0 a3), .int .i64 x17_1] ?_;(with_reducible refine (spec_poIn.calls (rd l0_0 a3) x17_1 t437 _ A10.out).mono ?_);rintro e w' ⟨rfl,⟨nd,rfl⟩⟩;refine ⟨_,rfl,?_⟩))
      (try simp only [Act.put,List.setIfInBounds_toArray,List.set_cons_zero,List.set_cons_succ])
      go_cut [10] (fun v10 wc=> ∃ (kq:Nat) (x10_10:Int),v10= .int .i64 x10_10∧Aside0 (spec_pcRange.j1 kq l1 a3 x10_10 x11_1 x17_1 (l0_0.length:Int) x17_1 l0_0=some (r1,r2))∧Aside0 (kq≤k1)∧Aside0 (wc.heap[gb435]? =some (.cells #[(.slice (some ad436) l0_0.length c0_0)] 26 (0,0)))∧Aside0 (Below w.heap.size w wc))
      case first=>
       have H:=HC11.out;clear HC11
       by_cases c13:t437=true
       ·
        subst c13;rw [if_pos rfl] at H
        by_cases c14:0≤x17_1
        ·
         rw [if_pos c14] at H;have c14b0:=decide_eq_true c14;clear c14
         (first|rw [c14b0] |(simp only [i64_w,i32_w];rw [c14b0])|skip)
         by_cases c15:x17_1<(l1.length:Int)
         ·
          rw [if_pos c15] at H;have c15b0:=decide_eq_true c15;clear c15;obtain ⟨t439,A16,H⟩:=bs H;(try dsimp only at H)
          have H':=Aside0.mk H;clear H;have p438:0≤(x17_1:Int):=of_decide_eq_true (by first|(with_reducible assumption)|assumption);have q438:x17_1<(l1.length:Int):=of_decide_eq_true (by first|(with_reducible assumption)|assumption);obtain ⟨ad438,e438,hx438_0⟩:=Kd.at_int HR1.out x17_1 p438 q438;cases e438;replace hx438_0:=(HB.out.cell (World.block_lt_of_cell? w _ hx438_0)).trans hx438_0;replace p438:=eq_true p438;replace q438:=eq_true q438;go_wp2_with (first|(refine gA (some 32) Try.func60 #[.int .i64 x10_1, .int .i64 (rd l1 x17_1)] ?_;(with_reducible refine (spec_l1Most.calls x10_1 (rd l1 x17_1) t439 _ A16.out).mono ?_);rintro e w' ⟨rfl,⟨nd,rfl⟩⟩;refine ⟨_,rfl,?_⟩))
          go_meet
          case rel=>exact ⟨_,(t439),(by first|rfl|(simp;done)|(simp [*];done)),H',⟨by have:=HK1.out;first|omega|exact Nat.le_refl _⟩,⟨uK BK435⟩,⟨uB HB⟩⟩
         ·
          rw [if_neg c15] at H;exact absurd H (by simp)
        ·
         rw [if_neg c14] at H;exact absurd H (by simp)
       ·
        replace c13:=Bool.eq_false_iff.mpr c13;subst c13;rw [if_neg (show ¬ (false=true) by decide)] at H;have H':=Aside0.mk H;clear H;go_wp2
        go_meet
        case rel=>exact ⟨_,(x10_1),(by first|rfl|(simp;done)|(simp [*];done)),H',⟨by have:=HK1.out;first|omega|exact Nat.le_refl _⟩,⟨uK BK435⟩,⟨uB HB⟩⟩
      case rest=>
       clear HC11
       try clear c1
       try clear p2
       try clear p4
       try clear q4
       try clear hx4
       try clear c5
       try clear c6
       try clear c7
       try clear c7b0
       try clear c8
       try clear c8b0
       try clear c9
       try clear c9b0
       try clear c13
       try clear c14
       try clear c14b0
       try clear c15
       try clear c15b0
       try clear hcz12_0
       try clear hcz6_0
       try clear hfz12_0
       try clear hfz6_0
       try clear hx436_0
       try clear hx438_0
       try clear p2
       try clear p436
       try clear p438
       try clear q436
       try clear q438
       obtain ⟨kq,x10_10,rfl,HA,HJ10,BK435,HB⟩:=hcut;cases kq with
       |zero=>exact absurd HA.out (by simp [spec_pcRange.j1])
       |succ kj10=>
        have H:=HA.out;clear HA;simp only [spec_pcRange.j1] at H
        by_cases c17:0≤x17_1
        ·
         rw [if_pos c17] at H;have c17b0:=decide_eq_true c17;clear c17
         by_cases c18:x17_1<(l0_0.length:Int)
         ·
          rw [if_pos c18] at H;have c18b0:=decide_eq_true c18;clear c18;obtain ⟨t441,A19,H⟩:=bs H;(try dsimp only at H)
          by_cases c20:t441=true
          ·
           subst c20;rw [if_pos rfl] at H
           by_cases c21:x17_1<(l1.length:Int)
           ·
            rw [if_pos c21] at H;have c21b0:=decide_eq_true c21;clear c21;obtain ⟨t443,A22,H⟩:=bs H;(try dsimp only at H)
            have H':=Aside0.mk H;clear H;have hcz23_0:=bC BK435;have hfz23_0:=blk_frozen BK435.out 0;have p440:0≤(x17_1:Int):=of_decide_eq_true (by first|(with_reducible assumption)|assumption);have q440:x17_1<(l0_0.length:Int):=of_decide_eq_true (by first|(with_reducible assumption)|assumption);obtain ⟨ad440,e440,hx440_0⟩:=Kd.at_int HR0_0.out x17_1 p440 q440;obtain rfl:ad436=ad440:=(by injection e440)
            replace hx440_0:=(HB.out.cell (World.block_lt_of_cell? w _ hx440_0)).trans hx440_0;replace p440:=eq_true p440;replace q440:=eq_true q440;go_wp2_with (first|(refine gA (some 39) Try.func59 #[.int .i64 (rd l0_0 x17_1), .int .i64 a3] ?_;(with_reducible refine (spec_poIn.calls (rd l0_0 x17_1) a3 true _ A19.out).mono ?_);rintro e w' ⟨rfl,⟨nd,rfl⟩⟩;refine ⟨_,rfl,?_⟩;have p442:0≤(x17_1:Int):=of_decide_eq_true (by first|(with_reducible assumption)|assumption);have q442:x17_1<(l1.length:Int):=of_decide_eq_true (by first|(with_reducible assumption)|assumption);obtain ⟨ad442,e442,hx442_0⟩:=Kd.at_int HR1.out x17_1 p442 q442;cases e442;replace hx442_0:=(HB.out.cell (World.block_lt_of_cell? w _ hx442_0)).trans hx442_0;replace p442:=eq_true p442;replace q442:=eq_true q442)|(refine gA (some 45) Try.func115 #[.int .i64 x11_1, .int .i64 (rd l1 x17_1)] ?_;(with_reducible refine (spec_l1Least.calls x11_1 (rd l1 x17_1) t443 _ A22.out).mono ?_);rintro e w' ⟨rfl,⟨nd,rfl⟩⟩;refine ⟨_,rfl,?_⟩));go_roundg kj10
            case measure=>have:=HK1.out;have:=HJ10.out;omega
            case rel=>exact ⟨(x10_10),(t443),(wrap64 (x17_1+1)),(by first|rfl|(simp;done)|(simp [*];done)),(by first|rfl|(simp;done)|(simp [*];done)),(by first|rfl|(simp;done)|(simp [*];done)),H',⟨by have:=HK1.out;have:=HJ10.out;omega⟩,⟨uK BK435⟩,⟨uB HB⟩⟩
           ·
            rw [if_neg c21] at H;exact absurd H (by simp)
          ·
           replace c20:=Bool.eq_false_iff.mpr c20;subst c20;rw [if_neg (show ¬ (false=true) by decide)] at H;have H':=Aside0.mk H;clear H;have hcz24_0:=bC BK435;have hfz24_0:=blk_frozen BK435.out 0;have p440:0≤(x17_1:Int):=of_decide_eq_true (by first|(with_reducible assumption)|assumption);have q440:x17_1<(l0_0.length:Int):=of_decide_eq_true (by first|(with_reducible assumption)|assumption);obtain ⟨ad440,e440,hx440_0⟩:=Kd.at_int HR0_0.out x17_1 p440 q440;obtain rfl:ad436=ad440:=(by injection e440)
           replace hx440_0:=(HB.out.cell (World.block_lt_of_cell? w _ hx440_0)).trans hx440_0;replace p440:=eq_true p440;replace q440:=eq_true q440;go_wp2_with (first|(refine gA (some 39) Try.func59 #[.int .i64 (rd l0_0 x17_1), .int .i64 a3] ?_;(with_reducible refine (spec_poIn.calls (rd l0_0 x17_1) a3 false _ A19.out).mono ?_);rintro e w' ⟨rfl,⟨nd,rfl⟩⟩;refine ⟨_,rfl,?_⟩));go_roundg kj10
           case measure=>have:=HK1.out;have:=HJ10.out;omega
           case rel=>exact ⟨(x10_10),(x11_1),(wrap64 (x17_1+1)),(by first|rfl|(simp;done)|(simp [*];done)),(by first|rfl|(simp;done)|(simp [*];done)),(by first|rfl|(simp;done)|(simp [*];done)),H',⟨by have:=HK1.out;have:=HJ10.out;omega⟩,⟨uK BK435⟩,⟨uB HB⟩⟩
         ·
          rw [if_neg c18] at H;exact absurd H (by simp)
        ·
         rw [if_neg c17] at H;exact absurd H (by simp)
     ·
      rw [if_neg c9] at H;exact absurd H (by simp)
    ·
     rw [if_neg c8] at H;exact absurd H (by simp)
   ·
    rw [if_neg c7] at H;have c7b0:=decide_eq_false c7;clear c7;simp only [Option.some.injEq,Prod.mk.injEq] at H;obtain ⟨rfl,rfl⟩:=H;go_wp2
    go_ret2
    exact ⟨by first|rfl|(simp [errW_none,errW_some] <;>rfl)|(simp [*,errW_none,errW_some] <;>rfl),uB HB⟩
def spec_pcAt.f (k : Nat) (l0_0 : List Int) (l1 : List Int) (a2 : Int) (a3 : Int) : Option (List Int) := (spec_pcRange.f k l0_0 l1 a2 a3).bind fun bt445 => ((spec_l1Own.f l1).bind fun t447 => (if 0 ≤ a3 then (if a3 < (l1.length : Int) then (if a3 < (t447.length : Int) then (some (t447.set (a3 : Int).toNat (wrap64 ((wrap64 (bt445.1 + bt445.2)) - (rd l1 a3))))) else (none)) else (none)) else (none)))
theorem spec_pcAt.mono : ∀ a0 a1 a2 a3 k, LeO (spec_pcAt.f k a0 a1 a2 a3) (spec_pcAt.f (k + 1) a0 a1 a2 a3) := by
 intro a0 a1 a2 a3 k;unfold spec_pcAt.f
 repeat' first
  |(with_reducible exact spec_pcRange.mono _ _ _ _ _)
  |(with_reducible exact LeO.refl _)
  |(with_reducible exact LeO.none _)
  |(with_reducible refine LeO.ite ?_ ?_)
  |(with_reducible refine LeO.bind ?_ (fun _=> ?_))
  |exact spec_pcRange.mono _ _ _ _ _
  |exact LeO.none _
  |refine LeO.ite ?_ ?_
  |refine LeO.bind ?_ (fun _=> ?_)
set_option maxHeartbeats 8000000 in
set_option maxRecDepth 100000 in
theorem spec_pcAt.calls (k : Nat) (A0_0 : Option Addr) (c0_0 : Nat) (l0_0 : List Int) (A1 : Option Addr) (c1 : Nat) (l1 : List Int) (a2 : Int) (a3 : Int) (r : List Int) (w : World) (hr0_0 : Kd.C (Kd.int .i64) w A0_0 l0_0.length l0_0) (hc0_0 : l0_0.length ≤ c0_0) (hr1 : Kd.C (Kd.int .i64) w A1 l1.length l1) (hc1 : l1.length ≤ c1) (h : spec_pcAt.f k l0_0 l1 a2 a3 = some r) :
 Calls Try.prog 80 #[.agg #[.slice A0_0 l0_0.length c0_0], .slice A1 l1.length c1, .int .i64 a2, .int .i64 a3] w fun e w'=> ∃ v0_:Value,e= .returned (v0_)∧Kd.R (Kd.int .i64) 3 w' w.heap.size (fun _=>True) v0_ r∧Below w.heap.size w w':=by
 have hu26:=Try.underlying26;have HR0_0:=Aside0.mk hr0_0;have HC0_0:=Aside0.mk hc0_0;clear hr0_0 hc0_0;have HR1:=Aside0.mk hr1;have HC1:=Aside0.mk hc1;clear hr1 hc1;have HB:=Aside0.mk (Below.refl w.heap.size w);have H:((spec_pcRange.f k l0_0 l1 a2 a3).bind fun bt445=>((spec_l1Own.f l1).bind fun t447=>(if 0≤a3 then (if a3<(l1.length:Int) then (if a3<(t447.length:Int) then (some (t447.set (a3:Int).toNat (wrap64 ((wrap64 (bt445.1+bt445.2)) - (rd l1 a3))))) else (none)) else (none)) else (none))))=some r:=h;clear h;obtain ⟨⟨t445,t446⟩,A5,H⟩:=bs H;(try dsimp only at H)
 obtain ⟨t447,A6,H⟩:=bs H;(try dsimp only at H)
 by_cases c7:0≤a3
 ·
  rw [if_pos c7] at H;have c7b0:=decide_eq_true c7;clear c7
  by_cases c8:a3<(l1.length:Int)
  ·
   rw [if_pos c8] at H;have c8b0:=decide_eq_true c8;clear c8
   by_cases c9:a3<(t447.length:Int)
   ·
    rw [if_pos c9] at H;have c9b0:=decide_eq_true c9;clear c9;obtain ⟨y451,hy451⟩: ∃ y_:List Int,y_=(t447.set (a3:Int).toNat (wrap64 ((wrap64 (t445+t446)) - (rd l1 a3)))):=⟨_,rfl⟩
    replace H:(some y451)=some r:=by first|(rw [hy451];with_reducible exact H)|(have H2_:=(Option.bind_some _ _).symm.trans H;rw [hy451];with_reducible exact H2_)|(have H2_:=(Option.bind_some _ _).symm.trans H;with_reducible exact H2_)|with_reducible exact H|(rw [hy451];exact H)|exact H
    have Ny451:=Aside0.mk hy451;clear hy451;obtain rfl:=Option.some.inj H;go_enter Try.func80,Try.ntmps80;go_wp2_with (first|(refine bE (N:=4) (cs:= #[.slice A0_0 l0_0.length c0_0]) (t:=26) ?_;intro gb444 hg w11 hbox hb;have BK444:=Aside0.mk (hbox);have GW444:=Aside0.mk ((by rw [hg];exact (below_size (uB HB)):w.heap.size≤gb444));have GE444:=GW444;replace HB:=Aside0.mk (below_step (uB HB) hb);clear hb hbox hg;have hcz12_0:=bC BK444;have hfz12_0:=blk_frozen BK444.out 0)|(refine gA (some 17) Try.func83 #[.agg #[.slice A0_0 l0_0.length c0_0], .slice A1 l1.length c1, .int .i64 a2, .int .i64 a3] ?_;(with_reducible refine (spec_pcRange.calls k _ _ l0_0 _ _ l1 a2 a3 t445 t446 _ (uD HR0_0 HB) HC0_0.out (uD HR1 HB) HC1.out A5.out).mono ?_);rintro e w13 ⟨rfl,hb⟩;refine ⟨_,rfl,?_⟩;replace BK444:=Aside0.mk (blk_below (uK BK444) hb);replace HB:=Aside0.mk (below_step (uB HB) hb);(try clear hb))|(refine gA (some 21) Try.func70 #[.slice A1 l1.length c1] ?_;(with_reducible refine (spec_l1Own.calls _ _ l1 t447 _ (uD HR1 HB) HC1.out A6.out).mono ?_);rintro e w14 ⟨v448,rfl,ho0,hb⟩;refine ⟨_,rfl,?_⟩;have HO449:=Aside0.mk (Kd.R_lower ho0 (below_size (uB HB)));replace BK444:=Aside0.mk (blk_below (uK BK444) hb);replace HB:=Aside0.mk (below_step (uB HB) hb);(try clear hb ho0);have p450:0≤(a3:Int):=of_decide_eq_true (by first|(with_reducible assumption)|assumption);have q450:a3<(l1.length:Int):=of_decide_eq_true (by first|(with_reducible assumption)|assumption);obtain ⟨ad450,e450,hx450_0⟩:=Kd.at_int HR1.out a3 p450 q450;cases e450;replace hx450_0:=(HB.out.cell (World.block_lt_of_cell? w _ hx450_0)).trans hx450_0;replace p450:=eq_true p450;replace q450:=eq_true q450;have p10:0≤(a3:Int):=of_decide_eq_true (by first|(with_reducible assumption)|assumption);have q10:(a3:Int)<((t447.length:Int):Int):=of_decide_eq_true (by first|(with_reducible assumption)|assumption);obtain ⟨go10,co10,eo10,gb10,gl10,cl10,HG10⟩:=Kd.R_form HO449.out (by omega);(first|cases eo10|(injection eo10 with ea_ en_ ec_;(first|subst ea_|(injection ea_ with ea_;subst ea_));subst ec_;clear en_));have GB10:=Aside0.mk gb10;have GG10:=Aside0.mk HG10;clear gb10 gl10 HG10;obtain ⟨hx10_0,hf10_0⟩:=Kd.R_celln 0 HO449.out (a3:Int) p10 q10;replace p10:=eq_true p10;replace q10:=eq_true q10;obtain ⟨hy15_,hz15_⟩:=Kd.R_celln 0 HO449.out (a3:Int) (of_decide_eq_true (by first|(with_reducible assumption)|assumption)) (of_decide_eq_true (by first|(with_reducible assumption)|assumption));have HP15:=Kd.R_putg HO449.out (a3:Int) (wrap64 ((wrap64 (t445+t446)) - (rd l1 a3))))|((with_reducible refine gate_store (t:=3) (p:=32) rfl ?_);refine store_event (t:=3) (p:=32) (v:= ?vo_w16) (w1:=(w14.setCell ⟨go10,(a3:Int).toNat,none⟩ (.int .i64 (wrap64 ((wrap64 (t445+t446)) - (rd l1 a3)))))) ?hg ?ho ?hn ?hr ?_;(case ho=>rfl);(case hg=>rfl);(case hn=>rfl);(case hr=>first|(go_simp;done)|(go_simp;rfl));intro w16 hw;have hg:w14.grownBy w16 (some go10):=(by rw [hw];exact HP15.2);have hp_:Kd.R (Kd.int .i64) 3 w16 w.heap.size (fun _=>True) (.slice (some ⟨go10,0,none⟩) t447.length co10) y451:=(by rw [hw,Ny451.out];exact HP15.1);clear HP15;replace BK444:=Aside0.mk (blk_grown (uK BK444) hg (Kd.R_ne HO449.out BK444.out (by decide)));replace HO449:=Aside0.mk (hp_);replace HB:=Aside0.mk ((by rw [hw];exact below_set (HB.out) GB10.out:Below w.heap.size w w16));clear hg hw hp_))
    go_ret
    exact ⟨_,by first|rfl|(simp [errW_none,errW_some] <;>rfl)|(simp [*,errW_none,errW_some] <;>rfl),uR HO449,uB HB⟩
   ·
    rw [if_neg c9] at H;exact absurd H (by simp)
  ·
   rw [if_neg c8] at H;exact absurd H (by simp)
 ·
  rw [if_neg c7] at H;exact absurd H (by simp)
end Go.Proofs.Ytkgngggppcmpfaa.L
end
