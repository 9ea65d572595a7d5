/- Laws about the given program: the law FnArraysAreLayers answers true for every input that its row lets in; no condition is added to the given statement. Contracts of the Go functions that it reaches, and the plain proof over lists. -/
import Derived.Test.YtkgngggppcmpfaaWFnArraysAreLayers0
import Derived.Test.YtkgngggppcmpfaaKFnArraysAreLayers0
import Derived.Test.YtkgngggppcmpfaaKFnArraysAreLayers1
import Derived.Test.YtkgngggppcmpfaaKFnArraysAreLayers2
section
namespace Go.Proofs.Ytkgngggppcmpfaa.L
open Go.RowKit Go.Proofs.YtkgngggppcmpfaaW.PrintWords Go.Proofs.YtkgngggppcmpfaaW.PrintLast Go.Proofs.YtkgngggppcmpfaaW.PrintMore Go.Proofs.Ytkgngggppcmpfaa.X
attribute [local go_sem] Qbd Qbf Qbn Qbo Q3 Q4 Qbe Qbg
set_option linter.unusedVariables false
set_option linter.unusedSimpArgs false
mutual
def Qy.l0:Nat→Int→List Int→Int→List Int→Int→Int→List Int→Option (List Int × List Int × Int × Int × Int)
 |0,_,_,_,_,_,_,_=>none
 |k+1,x8,x9,x10,x1000,x1001,x1002,x340000=>(Qc2.f (x340000.length:Int) 11).bind fun t346=>(if x10<t346 then (Qy.l1 k x8 x9 x10 0 x9 (x9.length:Int) 0 x1000 x1001 x1002 x340000) else ((Qm.f x1000 x1001 x1002 16).bind fun bt358=>(if bt358.1=0 then (if x9.length<17592186044416 then (some (x340000,(x9++ [0]),x8,bt358.2.1,bt358.2.2)) else (none)) else (if bt358.1=1 then (if (x9.length:Int)>0 then ((Qm.f x1000 bt358.2.1 bt358.2.2 (x9.length:Int)).bind fun bt364=>((Qbh.f x1000 bt364.2.1 bt364.2.2 (([(-1),0,x8,wrap64 (x8+1),4611686018427387904] :List Int))).bind fun bt370=>(if 0≤bt364.1 then (if bt364.1<(x9.length:Int) then (some (x340000,(x9.set (bt364.1:Int).toNat bt370.1),x8,bt370.2.1,bt370.2.2)) else (none)) else (none)))) else (some (x340000,x9,x8,bt358.2.1,bt358.2.2))) else (if bt358.1=2 then ((Qbh.f x1000 bt358.2.1 bt358.2.2 (([(-1),21,0] :List Int))).bind fun bt377=>(some (x340000,x9,bt377.1,bt377.2.1,bt377.2.2))) else (some (x340000,x9,x8,bt358.2.1,bt358.2.2)))))))
def Qy.l1:Nat→Int→List Int→Int→Int→List Int→Int→Int→List Int→Int→Int→List Int→Option (List Int × List Int × Int × Int × Int)
 |0,_,_,_,_,_,_,_,_,_,_,_=>none
 |k+1,x8,x9,x10,x11,x28,x29,x30,x1000,x1001,x1002,x340000=>if x30<x29 then (if 0≤x30 then (if x30<(x28.length:Int) then (if 0≤x10 then (if x10<(x340000.length:Int) then ((Qch.f (rd x340000 x10) x30).bind fun t356=>(if t356=true then ((Qc8.f x11 (rd x28 x30)).bind fun t357=>(Qy.l1 k x8 x9 x10 t357 x28 x29 (wrap64 (x30+1)) x1000 x1001 x1002 x340000)) else (Qy.l1 k x8 x9 x10 x11 x28 x29 (wrap64 (x30+1)) x1000 x1001 x1002 x340000))) else (none)) else (none)) else (none)) else (none)) else ((Qc8.f 0 (wrap64 (x8 - x11))).bind fun t347=>((Qm.f x1000 x1001 x1002 (wrap64 (t347+1))).bind fun bt348=>(if x9.length<17592186044416 then (Qy.l0 k x8 (x9++ [wrap64 (x11+bt348.1)]) (wrap64 (x10+1)) x1000 bt348.2.1 bt348.2.2 x340000) else (none))))
end
def Qy.f (k:Nat) (s0_0:List Int) (s0_1:Int) (s0_2:Int) (a1:Int):Option (List Int × List Int × Int × Int × Int):=(Q0.f k s0_0 s0_1 s0_2 a1).bind fun bt334=>((Qbh.f s0_0 bt334.2.1 bt334.2.2 (([1,2,3,5,10,20,0] :List Int))).bind fun bt343=>(Qy.l0 k bt343.1 ([] :List Int) 0 s0_0 bt343.2.1 bt343.2.2 bt334.1))
theorem Qy.mono_l: ∀ k,(∀ y0 y1 y2 y3 y4 y5 y6,LeO (Qy.l0 k y0 y1 y2 y3 y4 y5 y6) (Qy.l0 (k+1) y0 y1 y2 y3 y4 y5 y6))∧(∀ y0 y1 y2 y3 y4 y5 y6 y7 y8 y9 y10,LeO (Qy.l1 k y0 y1 y2 y3 y4 y5 y6 y7 y8 y9 y10) (Qy.l1 (k+1) y0 y1 y2 y3 y4 y5 y6 y7 y8 y9 y10))
 |0=>⟨fun _ _ _ _ _ _ _ r h=>by simp [Qy.l0] at h,fun _ _ _ _ _ _ _ _ _ _ _ r h=>by simp [Qy.l1] at h⟩
 |k+1=>by
  obtain ⟨ih0,ih1⟩:=Qy.mono_l k;refine ⟨?_,?_⟩
  all_goals
   intros
   first|unfold Qy.l0|unfold Qy.l1
   repeat' (with_reducible first|apply ih0|apply ih1|apply Q0.mono|exact LeO.refl _|exact LeO.none _|refine LeO.ite ?_ ?_|refine LeO.bind ?_ (fun _=> ?_))
theorem Qy.mono: ∀ a0 a1 a2 a3 k,LeO (Qy.f k a0 a1 a2 a3) (Qy.f (k+1) a0 a1 a2 a3):=by
 intro a0 a1 a2 a3 k;obtain ⟨ih0,ih1⟩:=Qy.mono_l k;unfold Qy.f
 repeat' (with_reducible first|apply ih0|apply ih1|apply Q0.mono|exact LeO.refl _|exact LeO.none _|refine LeO.ite ?_ ?_|refine LeO.bind ?_ (fun _=> ?_))
set_option maxHeartbeats 8000000 in
set_option maxRecDepth 100000 in
theorem Qy.calls (k:Nat) (g:Nat) (s0_0:List Int) (s0_1:Int) (s0_2:Int) (a1:Int) (r1:List Int) (r2:List Int) (r3:Int) (r4:Int) (r5:Int) (w0 w:World) (hI:Qa w0 w g s0_0 s0_1 s0_2) (hB:Below w0.heap.size w0 w) (h:Qy.f k s0_0 s0_1 s0_2 a1=some (r1,r2,r3,r4,r5)):
 Calls Try.prog 61 #[.pointer (some ⟨g,0,none⟩), .int .i64 a1] w fun e w'=> ∃ v0_ v1_:Value,e= .returned (.tuple #[.agg #[v0_],v1_, .int .i64 r3])∧Kd.R (Kd.int .i64) 3 w' w.heap.size (fun k_=>some k_≠(v1_:Value).ownBlock) v0_ r1∧Kd.R (Kd.int .i64) 3 w' w.heap.size (fun k_=>some k_≠(v0_:Value).ownBlock) v1_ r2∧Qa w0 w' g s0_0 r4 r5∧Below w0.heap.size w0 w'∧Qj w w' g none:=by
 have hu26:=Try.underlying26;have HI0:=Zk hI;have HK:=Zk (Qj.refl w g none);have HL:=Zk hB.size;clear hI;have HW0:=Zk hB.size;have HB:=Zk hB;clear hB;have H:((Q0.f k s0_0 s0_1 s0_2 a1).bind fun bt334=>((Qbh.f s0_0 bt334.2.1 bt334.2.2 (([1,2,3,5,10,20,0] :List Int))).bind fun bt343=>(Qy.l0 k bt343.1 ([] :List Int) 0 s0_0 bt343.2.1 bt343.2.2 bt334.1)))=some (r1,r2,r3,r4,r5):=h;clear h;obtain ⟨⟨t334,t337,t338⟩,A3,H⟩:=bs H;(try dsimp only at H)
 obtain ⟨y340,hy340⟩: ∃ y_:List Int,y_=(([1,2,3,5,10,20,0] :List Int)):=⟨_,rfl⟩
 replace H:((Qbh.f s0_0 t337 t338 y340).bind fun bt343=>(Qy.l0 k bt343.1 ([] :List Int) 0 s0_0 bt343.2.1 bt343.2.2 t334))=some (r1,r2,r3,r4,r5):=by first|(rw [hy340];with_reducible exact H)|(have H2_:=(Option.bind_some _ _).symm.trans H;rw [hy340];with_reducible exact H2_)|(have H2_:=(Option.bind_some _ _).symm.trans H;with_reducible exact H2_)|with_reducible exact H|(rw [hy340];exact H)|exact H
 have Ny340:=Zk hy340;clear hy340;obtain ⟨⟨t343,t344,t345⟩,A4,H⟩:=bs H;(try dsimp only at H)
 have H':=Zk H;clear H;go_enter Try.func61,Try.ntmps61;go_wp2_with (first|(refine bE (N:=4) (cs:= #[.slice none 0 0]) (t:=26) ?_;intro gb333 hg w5 hbox hb;replace HB:=Zk (Qc (Qa.vB HB) hb);have BK333:=Zk (hbox);have GW333:=Zk ((by rw [hg];exact (Qbs (w:=w) (g:=g) (row:=none) (vK HK)):w.heap.size≤gb333));have GE333:=Zk ((Nat.le_trans HW0.out (by rw [hg];exact (Qbs (w:=w) (g:=g) (row:=none) (vK HK)):w.heap.size≤gb333):w0.heap.size≤gb333));replace HK:=Zk (Qj.trans (vK HK) (Qj.of_below hb g none) (.inl rfl));have NB0_333:=Zk ((by rw [hg];exact Nat.ne_of_lt (Qa.lt (show Qa w0 _ g s0_0 s0_1 s0_2 from (Qa.vI HI0))):g≠gb333));have NB333_0:=Zk ((by rw [hg];exact Nat.ne_of_gt (Qa.lt (show Qa w0 _ g s0_0 s0_1 s0_2 from (Qa.vI HI0))):gb333≠g));replace HI0:=Zk (Qa.below (Qa.vI HI0) hb);clear hb hbox hg)|(refine gA (some 16) Try.func107 #[.pointer (some ⟨g,0,none⟩), .int .i64 a1] ?_;(with_reducible refine (Q0.calls k g s0_0 s0_1 s0_2 a1 t334 t337 t338 w0 _ (Qa.vI HI0) (Qa.vB HB) A3.out).mono ?_);rintro e w6 ⟨v335,rfl,ho0,hi,hb,hk⟩;refine ⟨_,rfl,?_⟩;replace BK333:=Zk (Qj.blk hk (g':=gb333) (o:= .cells #[.slice none 0 0] 26 (0,0)) (uK BK333) NB333_0.out (by simp));have HO336:=Zk (Kd.R_lower ho0 (Qbs (w:=w) (g:=g) (row:=none) (vK HK)));replace HK:=Zk (Qj.trans (vK HK) hk (.inl rfl));replace HB:=Zk (hb);replace HI0:=Zk (hi);(try clear hb hk hi ho0))|(refine bE (N:=7) (cs:= #[.slice none 0 0]) (t:=26) ?_;intro gb339 hg w7 hbox hb;replace HO336:=Zk (Kd.R_below (uR HO336) hb);replace HB:=Zk (Qc (Qa.vB HB) hb);have BK339:=Zk (hbox);have GW339:=Zk ((by rw [hg];exact (Qbs (w:=w) (g:=g) (row:=none) (vK HK)):w.heap.size≤gb339));have GE339:=Zk ((Nat.le_trans HW0.out (by rw [hg];exact (Qbs (w:=w) (g:=g) (row:=none) (vK HK)):w.heap.size≤gb339):w0.heap.size≤gb339));replace HK:=Zk (Qj.trans (vK HK) (Qj.of_below hb g none) (.inl rfl));have NB333_339:=Zk ((by rw [hg];exact Nat.ne_of_lt (Qb9 (uK BK333)):gb333≠gb339));have NB339_333:=Zk ((by rw [hg];exact Nat.ne_of_gt (Qb9 (uK BK333)):gb339≠gb333));replace BK333:=Zk (Qd (uK BK333) hb);have NB0_339:=Zk ((by rw [hg];exact Nat.ne_of_lt (Qa.lt (show Qa w0 _ g s0_0 t337 t338 from (Qa.vI HI0))):g≠gb339));have NB339_0:=Zk ((by rw [hg];exact Nat.ne_of_gt (Qa.lt (show Qa w0 _ g s0_0 t337 t338 from (Qa.vI HI0))):gb339≠g));replace HI0:=Zk (Qa.below (Qa.vI HI0) hb);clear hb hbox hg;obtain ⟨Ao8,co8,eo8⟩:=Kd.R_slice HO336.out;subst eo8;have hnb9:=NB339_333.out;have hnc9:=NB333_339.out;have hnb10:=NB339_0.out;have hnc10:=NB0_339.out;have hcz11_0:=bC BK339;have hfz11_0:=Qg BK339.out 0)|((with_reducible refine Qb2 (N:=18) rfl ?_);refine Kd.R_lit (Kd.int .i64) _ 3 ?hg (N:=18) ?hd (xs:=([1,2,3,5,10,20,0] :List Int)) (inner:= [.int .i64 1, .int .i64 2, .int .i64 3, .int .i64 5, .int .i64 10, .int .i64 20, .int .i64 0]) (ok:=fun _=>True) (okp:=fun _=>True) ?hr ?hp (fun _ hk=>hk) trivial (Below.refl _ _) (Nat.le_refl _) (by simp) ?_;(case hd=>rfl);(case hg=>rfl);(case hr=>first|(go_simp;done)|(go_simp;rfl));(case hp=>exact (Reps.one (show Kd.M (Kd.int .i64) _ _ _ 1 [.int .i64 1] from rfl) (Reps.one (show Kd.M (Kd.int .i64) _ _ _ 2 [.int .i64 2] from rfl) (Reps.one (show Kd.M (Kd.int .i64) _ _ _ 3 [.int .i64 3] from rfl) (Reps.one (show Kd.M (Kd.int .i64) _ _ _ 5 [.int .i64 5] from rfl) (Reps.one (show Kd.M (Kd.int .i64) _ _ _ 10 [.int .i64 10] from rfl) (Reps.one (show Kd.M (Kd.int .i64) _ _ _ 20 [.int .i64 20] from rfl) (Reps.one (show Kd.M (Kd.int .i64) _ _ _ 0 [.int .i64 0] from rfl) (Reps.none _ _)))))))));intro v341 w12 ho13 hb hg_ hnew_;clear hg_ hnew_;(first|rw [←Ny340.out] at ho13|(simp only [Int.reduceToNat] at ho13;rw [←Ny340.out] at ho13));have HO342:=Zk (Kd.R_lower (Kd.R_new' ho13 (Kd.R_lt (rF HO336 BK339 (.slice Ao8 t334.length co8)))) (Qbs (w:=w) (g:=g) (row:=none) (vK HK)));replace HO336:=Zk (Kd.R_elder' (rF HO336 BK339 (.slice Ao8 t334.length co8)) (Kd.R_base ho13) hb);replace HI0:=Zk (Qa.below (show Qa w0 (w7.setCell ⟨gb339,0,none⟩ (.slice Ao8 t334.length co8)) g s0_0 t337 t338 from (Qa.vI HI0)) hb);replace BK333:=Zk (Qd (g:=gb333) (o:= .cells #[.slice none 0 0] 26 (0,0)) kF hb);replace BK339:=Zk (Qd (g:=gb339) (o:= .cells #[.slice Ao8 t334.length co8] 26 (0,0)) bP hb);replace HK:=Zk (Qj.trans (vK HK) (Qj.of_below hb g none) (.inl rfl));replace HB:=Zk (Qc (Qa.vB HB) hb);clear hb ho13;obtain ⟨Ao14,co14,eo14⟩:=Kd.R_slice HO342.out;subst eo14)|(refine gA (some 19) Try.func94 #[.pointer (some ⟨g,0,none⟩), .slice Ao14 y340.length co14] ?_;(with_reducible refine (Qbh.calls g s0_0 t337 t338 _ _ y340 t343 t344 t345 w0 _ (Qa.vI HI0) (Qa.vB HB) (uE HO342) ?side4 ?side5 A4.out).mono ?_);(case side4=>exact (Kd.R_reads' HO342.out).2.1);(case side5=>exact Qeh (Qa.own_ne HI0.out HO342.out (by decide)));rintro e w15 ⟨rfl,hi,hb,hk⟩;refine ⟨_,rfl,?_⟩;replace BK333:=Zk (Qj.blk hk (g':=gb333) (o:= .cells #[.slice none 0 0] 26 (0,0)) (uK BK333) NB333_0.out (by simp));replace HO336:=Zk (Kd.R_mono (Kd.R_keep (Qa.apart (show Qa w0 _ g s0_0 t337 t338 from (Qa.vI HI0)) (uR HO336) (by decide)) hk (fun _ h=>h.2)) (fun _ h=>h.1));replace BK339:=Zk (Qj.blk hk (g':=gb339) (o:= .cells #[.slice Ao8 t334.length co8] 26 (0,0)) (uK BK339) NB339_0.out (by simp));replace HO342:=Zk (Kd.R_mono (Kd.R_keep (Qa.apart (show Qa w0 _ g s0_0 t337 t338 from (Qa.vI HI0)) (uR HO342) (by decide)) hk (fun _ h=>h.2)) (fun _ h=>h.1));replace HK:=Zk (Qj.trans (vK HK) hk (.inl rfl));replace HB:=Zk (hb);replace HI0:=Zk (hi);(try clear hb hk hi)))
 go_loopg [9,10] k (fun kq v9 v10 w'=> ∃ (x9_1:List Int) (x10_1:Int) (x1001_1:Int) (x1002_1:Int),v10= .int .i64 x10_1∧Z0 (Qy.l0 kq t343 x9_1 x10_1 s0_0 x1001_1 x1002_1 t334=some (r1,r2,r3,r4,r5))∧Z0 (kq≤k)∧Z0 (Kd.R (Kd.int .i64) 3 w' w.heap.size (fun k_=>some k_≠((.slice Ao8 t334.length co8):Value).ownBlock) v9 x9_1)∧Z0 (Kd.R (Kd.int .i64) 3 w' w.heap.size (fun k_=>some k_≠(v9:Value).ownBlock) (.slice Ao8 t334.length co8) t334)∧Z0 (w'.heap[gb333]? =some (.cells #[(.slice none 0 0)] 26 (0,0)))∧Z0 (w'.heap[gb339]? =some (.cells #[(.slice Ao8 t334.length co8)] 26 (0,0)))∧Z0 (Qa w0 w' g s0_0 x1001_1 x1002_1)∧Z0 (Qj w w' g none)∧Z0 (Below w0.heap.size w0 w'))
 case atStart=>exact ⟨(([] :List Int)),(0),(t344),(t345),(by first|rfl|(simp;done)|(simp [*];done)),H',⟨Nat.le_refl _⟩,⟨by first|exact Kd.R_nil _ _ _ _ _|exact Kd.N_nil _ _ _ _ _|exact Kd.V_nil _ _ _ _ _|exact Kd.Q_nil _ _ _ _ _|exact Kd.S_nil _ _ _ _ _⟩,⟨Kd.R_mono (uR HO336) (fun _ hk=>(by simp [Value.ownBlock]))⟩,⟨uK BK333⟩,⟨uK BK339⟩,⟨(Qa.vI HI0)⟩,⟨(vK HK)⟩,⟨(Qa.vB HB)⟩⟩
 case round=>
  clear H'
  try clear hcz11_0 hfz11_0
  obtain ⟨x9_1,x10_1,x1001_1,x1002_1,rfl,HA,HK1,HO_9,HO_340000,BK333,BK339,HI0,HK,HB⟩:=hrel;cases gk with
  |zero=>exact absurd HA.out (by simp [Qy.l0])
  |succ k1=>
   have H:=HA.out;clear HA;simp only [Qy.l0] at H;obtain ⟨t346,A16,H⟩:=bs H;(try dsimp only at H)
   by_cases c17:x10_1<t346
   ·
    rw [if_pos c17] at H;have c17b0:=decide_eq_true c17;clear c17;have H':=Zk H;clear H;have hnb18:=NB339_333.out;have hnc18:=NB333_339.out;have hnb19:=NB339_0.out;have hnc19:=NB0_339.out;have hcz20_0:=bC BK339;have hfz20_0:=Qg BK339.out 0;go_wp2_with (first|(refine gA (some 24) Try.func115 #[.int .i64 (t334.length:Int), .int .i64 11] ?_;(with_reducible refine (Qc2.calls (t334.length:Int) 11 t346 _ A16.out).mono ?_);rintro e w' ⟨rfl,⟨nd,rfl⟩⟩;refine ⟨_,rfl,?_⟩;obtain ⟨Ao21,co21,eo21⟩:=Kd.R_slice HO_9.out;subst eo21))
    go_loopg [11,30] k1 (fun kq v11 v30 w'=> ∃ (x11_2:Int) (x30_2:Int),v11= .int .i64 x11_2∧v30= .int .i64 x30_2∧Z0 (Qy.l1 kq t343 x9_1 x10_1 x11_2 x9_1 (x9_1.length:Int) x30_2 s0_0 x1001_1 x1002_1 t334=some (r1,r2,r3,r4,r5))∧Z0 (kq≤k1)∧Z0 (Kd.R (Kd.int .i64) 3 w' w.heap.size (fun k_=>some k_≠((.slice Ao8 t334.length co8):Value).ownBlock) (.slice Ao21 x9_1.length co21) x9_1)∧Z0 (Kd.R (Kd.int .i64) 3 w' w.heap.size (fun k_=>some k_≠((.slice Ao8 t334.length co8):Value).ownBlock) (.slice Ao21 x9_1.length co21) x9_1)∧Z0 (Kd.R (Kd.int .i64) 3 w' w.heap.size (fun k_=>some k_≠((.slice Ao21 x9_1.length co21):Value).ownBlock∧some k_≠((.slice Ao21 x9_1.length co21):Value).ownBlock) (.slice Ao8 t334.length co8) t334)∧Z0 (w'.heap[gb333]? =some (.cells #[(.slice none 0 0)] 26 (0,0)))∧Z0 (w'.heap[gb339]? =some (.cells #[(.slice Ao8 t334.length co8)] 26 (0,0)))∧Z0 (Qa w0 w' g s0_0 x1001_1 x1002_1)∧Z0 (Qj w w' g none)∧Z0 (Below w0.heap.size w0 w'))
    case atStart=>exact ⟨(0),(0),(by first|rfl|(simp;done)|(simp [*];done)),(by first|rfl|(simp;done)|(simp [*];done)),H',⟨Nat.le_refl _⟩,⟨uR HO_9⟩,⟨uR HO_9⟩,⟨Kd.R_mono (uR HO_340000) (fun _ hk=>⟨hk,hk⟩)⟩,⟨uK BK333⟩,⟨uK BK339⟩,⟨(Qa.vI HI0)⟩,⟨(vK HK)⟩,⟨(Qa.vB HB)⟩⟩
    case round=>
     clear H'
     try clear c17b0 hcz20_0 hfz20_0
     obtain ⟨x11_2,x30_2,rfl,rfl,HA,HK2,HO_9,HO_28,HO_340000,BK333,BK339,HI0,HK,HB⟩:=hrel;cases gk with
     |zero=>exact absurd HA.out (by simp [Qy.l1])
     |succ k2=>
      have H:=HA.out;clear HA;simp only [Qy.l1] at H
      by_cases c22:x30_2<(x9_1.length:Int)
      ·
       rw [if_pos c22] at H;have c22b0:=decide_eq_true c22;clear c22
       by_cases c23:0≤x30_2
       ·
        rw [if_pos c23] at H;have c23b0:=decide_eq_true c23;clear c23
        by_cases c24:x30_2<(x9_1.length:Int)
        ·
         rw [if_pos c24] at H;have c24b0:=decide_eq_true c24;clear c24
         by_cases c25:0≤x10_1
         ·
          rw [if_pos c25] at H;have c25b0:=decide_eq_true c25;clear c25
          by_cases c26:x10_1<(t334.length:Int)
          ·
           rw [if_pos c26] at H;have c26b0:=decide_eq_true c26;clear c26;obtain ⟨t356,A27,H⟩:=bs H;(try dsimp only at H)
           by_cases c28:t356=true
           ·
            subst c28;rw [if_pos rfl] at H;obtain ⟨t357,A29,H⟩:=bs H;(try dsimp only at H)
            have H':=Zk H;clear H;have p354:0≤(x30_2:Int):=of_decide_eq_true (by first|(with_reducible assumption)|assumption);have q354:x30_2<(x9_1.length:Int):=of_decide_eq_true (by first|(with_reducible assumption)|assumption);obtain ⟨ad354,e354,hx354_0⟩:=Kd.at_int (Kd.R_reads' HO_28.out).2.2 x30_2 p354 q354;cases e354;replace p354:=eq_true p354;replace q354:=eq_true q354;have hnb30:=NB339_333.out;have hnc30:=NB333_339.out;have hnb31:=NB339_0.out;have hnc31:=NB0_339.out;have hcz32_0:=bC BK339;have hfz32_0:=Qg BK339.out 0;have p355:0≤(x10_1:Int):=of_decide_eq_true (by first|(with_reducible assumption)|assumption);have q355:x10_1<(t334.length:Int):=of_decide_eq_true (by first|(with_reducible assumption)|assumption);obtain ⟨ad355,e355,hx355_0⟩:=Kd.at_int (Kd.R_reads' HO_340000.out).2.2 x10_1 p355 q355;cases e355;replace p355:=eq_true p355;replace q355:=eq_true q355;go_wp2_with (first|(refine gA (some 41) Try.func59 #[.int .i64 (rd t334 x10_1), .int .i64 x30_2] ?_;(with_reducible refine (Qch.calls (rd t334 x10_1) x30_2 true _ A27.out).mono ?_);rintro e w' ⟨rfl,⟨nd,rfl⟩⟩;refine ⟨_,rfl,?_⟩)|(refine gA (some 44) Try.func60 #[.int .i64 x11_2, .int .i64 (rd x9_1 x30_2)] ?_;(with_reducible refine (Qc8.calls x11_2 (rd x9_1 x30_2) t357 _ A29.out).mono ?_);rintro e w' ⟨rfl,⟨nd,rfl⟩⟩;refine ⟨_,rfl,?_⟩));go_roundg k2
            case measure=>have:=HK1.out;have:=HK2.out;omega
            case rel=>exact ⟨(t357),(wrap64 (x30_2+1)),(by first|rfl|(simp;done)|(simp [*];done)),(by first|rfl|(simp;done)|(simp [*];done)),H',⟨by have:=HK1.out;have:=HK2.out;omega⟩,⟨uR HO_9⟩,⟨uR HO_28⟩,⟨uR HO_340000⟩,⟨uK BK333⟩,⟨uK BK339⟩,⟨(Qa.vI HI0)⟩,⟨(vK HK)⟩,⟨(Qa.vB HB)⟩⟩
           ·
            replace c28:=Bool.eq_false_iff.mpr c28;subst c28;rw [if_neg (show ¬ (false=true) by decide)] at H;have H':=Zk H;clear H;have p354:0≤(x30_2:Int):=of_decide_eq_true (by first|(with_reducible assumption)|assumption);have q354:x30_2<(x9_1.length:Int):=of_decide_eq_true (by first|(with_reducible assumption)|assumption);obtain ⟨ad354,e354,hx354_0⟩:=Kd.at_int (Kd.R_reads' HO_28.out).2.2 x30_2 p354 q354;cases e354;replace p354:=eq_true p354;replace q354:=eq_true q354;have hnb33:=NB339_333.out;have hnc33:=NB333_339.out;have hnb34:=NB339_0.out;have hnc34:=NB0_339.out;have hcz35_0:=bC BK339;have hfz35_0:=Qg BK339.out 0;have p355:0≤(x10_1:Int):=of_decide_eq_true (by first|(with_reducible assumption)|assumption);have q355:x10_1<(t334.length:Int):=of_decide_eq_true (by first|(with_reducible assumption)|assumption);obtain ⟨ad355,e355,hx355_0⟩:=Kd.at_int (Kd.R_reads' HO_340000.out).2.2 x10_1 p355 q355;cases e355;replace p355:=eq_true p355;replace q355:=eq_true q355;go_wp2_with (first|(refine gA (some 41) Try.func59 #[.int .i64 (rd t334 x10_1), .int .i64 x30_2] ?_;(with_reducible refine (Qch.calls (rd t334 x10_1) x30_2 false _ A27.out).mono ?_);rintro e w' ⟨rfl,⟨nd,rfl⟩⟩;refine ⟨_,rfl,?_⟩));go_roundg k2
            case measure=>have:=HK1.out;have:=HK2.out;omega
            case rel=>exact ⟨(x11_2),(wrap64 (x30_2+1)),(by first|rfl|(simp;done)|(simp [*];done)),(by first|rfl|(simp;done)|(simp [*];done)),H',⟨by have:=HK1.out;have:=HK2.out;omega⟩,⟨uR HO_9⟩,⟨uR HO_28⟩,⟨uR HO_340000⟩,⟨uK BK333⟩,⟨uK BK339⟩,⟨(Qa.vI HI0)⟩,⟨(vK HK)⟩,⟨(Qa.vB HB)⟩⟩
          ·
           rw [if_neg c26] at H;exact absurd H (by simp)
         ·
          rw [if_neg c25] at H;exact absurd H (by simp)
        ·
         rw [if_neg c24] at H;exact absurd H (by simp)
       ·
        rw [if_neg c23] at H;exact absurd H (by simp)
      ·
       rw [if_neg c22] at H;have c22b0:=decide_eq_false c22;clear c22;obtain ⟨t347,A36,H⟩:=bs H;(try dsimp only at H)
       obtain ⟨⟨t348,t349,t350⟩,A37,H⟩:=bs H;(try dsimp only at H)
       by_cases c38:x9_1.length<17592186044416
       ·
        rw [if_pos c38] at H;have LMc38:=Zk c38;clear c38;obtain ⟨y351,hy351⟩: ∃ y_:List Int,y_=(x9_1++ [wrap64 (x11_2+t348)]):=⟨_,rfl⟩
        replace H:(Qy.l0 k2 t343 y351 (wrap64 (x10_1+1)) s0_0 t349 t350 t334)=some (r1,r2,r3,r4,r5):=by first|(rw [hy351];with_reducible exact H)|(have H2_:=(Option.bind_some _ _).symm.trans H;rw [hy351];with_reducible exact H2_)|(have H2_:=(Option.bind_some _ _).symm.trans H;with_reducible exact H2_)|with_reducible exact H|(rw [hy351];exact H)|exact H
        have Ny351:=Zk hy351;clear hy351;have H':=Zk H;clear H;go_wp2_with (first|(refine gA (some 52) Try.func60 #[.int .i64 0, .int .i64 (wrap64 (t343 - x11_2))] ?_;(with_reducible refine (Qc8.calls 0 (wrap64 (t343 - x11_2)) t347 _ A36.out).mono ?_);rintro e w' ⟨rfl,⟨nd,rfl⟩⟩;refine ⟨_,rfl,?_⟩)|(refine gA (some 54) Try.func58 #[.pointer (some ⟨g,0,none⟩), .int .i64 (wrap64 (t347+1))] ?_;(with_reducible refine (Qm.calls g s0_0 x1001_1 x1002_1 (wrap64 (t347+1)) t348 t349 t350 w0 _ (Qa.vI HI0) (Qa.vB HB) A37.out).mono ?_);rintro e w39 ⟨rfl,hi,hb,hk⟩;refine ⟨_,rfl,?_⟩;replace HO_9:=Zk (Kd.R_mono (Kd.R_keep (Qa.apart (show Qa w0 _ g s0_0 x1001_1 x1002_1 from (Qa.vI HI0)) (uR HO_9) (by decide)) hk (fun _ h=>h.2)) (fun _ h=>h.1));replace HO_28:=Zk (Kd.R_mono (Kd.R_keep (Qa.apart (show Qa w0 _ g s0_0 x1001_1 x1002_1 from (Qa.vI HI0)) (uR HO_28) (by decide)) hk (fun _ h=>h.2)) (fun _ h=>h.1));replace HO_340000:=Zk (Kd.R_mono (Kd.R_keep (Qa.apart (show Qa w0 _ g s0_0 x1001_1 x1002_1 from (Qa.vI HI0)) (uR HO_340000) (by decide)) hk (fun _ h=>h.2)) (fun _ h=>h.1));replace BK333:=Zk (Qj.blk hk (g':=gb333) (o:= .cells #[.slice none 0 0] 26 (0,0)) (uK BK333) NB333_0.out (by simp));replace BK339:=Zk (Qj.blk hk (g':=gb339) (o:= .cells #[.slice Ao8 t334.length co8] 26 (0,0)) (uK BK339) NB339_0.out (by simp));replace HK:=Zk (Qj.trans (vK HK) hk (.inl rfl));replace HB:=Zk (hb);replace HI0:=Zk (hi);(try clear hb hk hi))|((with_reducible refine Qcl (b:= .append) (xs:= #[.tmp 46, .tmp 56]) rfl ?_);at_builtin;refine Kd.R_append (Kd.int .i64) w.heap.size rfl (.tmp 46) (.tmp 56) 24 3 (.int .i64 0) 8 rfl Try.underlying24 Qed rfl (by decide) (by omega) (.slice Ao21 x9_1.length co21) x9_1 (wrap64 (x11_2+t348)) [.int .i64 (wrap64 (x11_2+t348))] (fun k_=>some k_≠(.slice Ao8 t334.length co8:Value).ownBlock) (fun _=>False) rfl rfl ?aP (fun _ hk=>hk.elim) ?aF ?aO (Below.refl _ _) ?aS ?aL ?_;(case aP=>exact rfl);(case aF=>exact (fun k_ hk=>Kd.fresh' (Kd.R_lt (uR HO_340000)) k_ hk));(case aO=>exact (uR HO_9));(case aS=>exact (Qbs (w:=w) (g:=g) (row:=none) (vK HK)));(case aL=>have:=LMc38.out;omega);intro v352 w40 ho hb hg hat;rw [←Ny351.out] at ho;replace HO_340000:=Zk (Kd.R_after (ok:=(fun _=>True)) (Kd.R_mono (uR HO_340000) (fun _ hk=>⟨trivial,hk.1⟩)) hg hat);replace BK333:=Zk (Qb8 (uK BK333) hg (Kd.R_ne HO_9.out BK333.out (by decide)));replace BK339:=Zk (Qb8 (uK BK339) hg (Kd.R_ne HO_9.out BK339.out (by decide)));replace HI0:=Zk (Qa.grown (Qa.vI HI0) hg (Qa.own_ne HI0.out HO_9.out (by decide)));replace HB:=Zk (Qf6 (Qa.vB HB) HL.out hb);replace HK:=Zk (Qj.trans (vK HK) (Qj.of_grown hg g) (Kd.R_base2 HO_9.out));have HO353:=Zk (ho);clear HO_9;clear ho hb hg hat));go_roundg k2
        case measure=>have:=HK1.out;have:=HK2.out;omega
        case rel=>exact ⟨(y351),(wrap64 (x10_1+1)),(t349),(t350),(by first|rfl|(simp;done)|(simp [*];done)),H',⟨by have:=HK1.out;have:=HK2.out;omega⟩,⟨uR HO353⟩,⟨Kd.R_mono (uR HO_340000) (fun _ hk=>hk.2)⟩,⟨uK BK333⟩,⟨uK BK339⟩,⟨(Qa.vI HI0)⟩,⟨(vK HK)⟩,⟨(Qa.vB HB)⟩⟩
       ·
        rw [if_neg c38] at H;exact absurd H (by simp)
   ·
    rw [if_neg c17] at H;have c17b0:=decide_eq_false c17;clear c17;obtain ⟨⟨t358,t359,t360⟩,A41,H⟩:=bs H;(try dsimp only at H)
    by_cases c42:t358=0
    ·
     rw [if_pos c42] at H;have c42b0:(t358==0)=true:=beq_iff_eq.mpr c42;have c42b1:(t358 !=0)=false:=bne_eq_false_iff_eq.mpr c42;clear c42
     by_cases c43:x9_1.length<17592186044416
     ·
      rw [if_pos c43] at H;have LMc43:=Zk c43;clear c43;obtain ⟨y361,hy361⟩: ∃ y_:List Int,y_=(x9_1++ [0]):=⟨_,rfl⟩
      replace H:(some (t334,y361,t343,t359,t360))=some (r1,r2,r3,r4,r5):=by first|(rw [hy361];with_reducible exact H)|(have H2_:=(Option.bind_some _ _).symm.trans H;rw [hy361];with_reducible exact H2_)|(have H2_:=(Option.bind_some _ _).symm.trans H;with_reducible exact H2_)|with_reducible exact H|(rw [hy361];exact H)|exact H
      have Ny361:=Zk hy361;clear hy361;simp only [Option.some.injEq,Prod.mk.injEq] at H;obtain ⟨rfl,rfl,rfl,rfl,rfl⟩:=H;have hnb44:=NB339_333.out;have hnc44:=NB333_339.out;have hnb45:=NB339_0.out;have hnc45:=NB0_339.out;have hcz46_0:=bC BK339;have hfz46_0:=Qg BK339.out 0;go_wp2_with (first|(refine gA (some 24) Try.func115 #[.int .i64 (t334.length:Int), .int .i64 11] ?_;(with_reducible refine (Qc2.calls (t334.length:Int) 11 t346 _ A16.out).mono ?_);rintro e w' ⟨rfl,⟨nd,rfl⟩⟩;refine ⟨_,rfl,?_⟩;(try (rw [Qes wr];generalize hq_:World.drewN wr _=wr;have n0_:Z0 (Kd.R (Kd.int .i64) 3 wr w.heap.size (fun k_=>some k_≠(u9:Value).ownBlock) (.slice Ao8 t334.length co8) t334):=⟨by rw [←hq_];exact (uR HO_340000)⟩;have n1_:Z0 (Kd.R (Kd.int .i64) 3 wr w.heap.size (fun k_=>some k_≠(.slice Ao8 t334.length co8:Value).ownBlock) u9 x9_1):=⟨by rw [←hq_];exact (uR HO_9)⟩;have n2_:Z0 (wr.heap[gb333]? =some (.cells #[.slice none 0 0] 26 (0,0))):=⟨by rw [←hq_];exact (uK BK333)⟩;have n3_:Z0 (wr.heap[gb339]? =some (.cells #[.slice Ao8 t334.length co8] 26 (0,0))):=⟨by rw [←hq_];exact (uK BK339)⟩;have n4_:Z0 (Qa w0 wr g s0_0 x1001_1 x1002_1):=⟨by rw [←hq_];exact (Qa.vI HI0)⟩;have n5_:Z0 (Qj w wr g none):=⟨by rw [←hq_];exact (vK HK)⟩;have n6_:Z0 (Below w0.heap.size w0 wr):=⟨by rw [←hq_];exact (Qa.vB HB)⟩;clear HO_340000 HO_9 BK333 BK339 HI0 HK HB hq_;have HO_340000:=n0_;have HO_9:=n1_;have BK333:=n2_;have BK339:=n3_;have HI0:=n4_;have HK:=n5_;have HB:=n6_;clear n0_ n1_ n2_ n3_ n4_ n5_ n6_)))|(refine gA (some 59) Try.func58 #[.pointer (some ⟨g,0,none⟩), .int .i64 16] ?_;(with_reducible refine (Qm.calls g s0_0 x1001_1 x1002_1 16 t358 t359 t360 w0 _ (Qa.vI HI0) (Qa.vB HB) A41.out).mono ?_);rintro e w47 ⟨rfl,hi,hb,hk⟩;refine ⟨_,rfl,?_⟩;replace HO_9:=Zk (Kd.R_mono (Kd.R_keep (Qa.apart (show Qa w0 _ g s0_0 x1001_1 x1002_1 from (Qa.vI HI0)) (uR HO_9) (by decide)) hk (fun _ h=>h.2)) (fun _ h=>h.1));replace HO_340000:=Zk (Kd.R_mono (Kd.R_keep (Qa.apart (show Qa w0 _ g s0_0 x1001_1 x1002_1 from (Qa.vI HI0)) (uR HO_340000) (by decide)) hk (fun _ h=>h.2)) (fun _ h=>h.1));replace BK333:=Zk (Qj.blk hk (g':=gb333) (o:= .cells #[.slice none 0 0] 26 (0,0)) (uK BK333) NB333_0.out (by simp));replace BK339:=Zk (Qj.blk hk (g':=gb339) (o:= .cells #[.slice Ao8 t334.length co8] 26 (0,0)) (uK BK339) NB339_0.out (by simp));replace HK:=Zk (Qj.trans (vK HK) hk (.inl rfl));replace HB:=Zk (hb);replace HI0:=Zk (hi);(try clear hb hk hi))|((with_reducible refine Qcl (b:= .append) (xs:= #[.tmp 62, .tmp 63]) rfl ?_);at_builtin;refine Kd.R_append (Kd.int .i64) w.heap.size rfl (.tmp 62) (.tmp 63) 24 3 (.int .i64 0) 8 rfl Try.underlying24 Qed rfl (by decide) (by omega) u9 x9_1 0 [.int .i64 0] (fun k_=>some k_≠(.slice Ao8 t334.length co8:Value).ownBlock) (fun _=>False) rfl rfl ?aP (fun _ hk=>hk.elim) ?aF ?aO (Below.refl _ _) ?aS ?aL ?_;(case aP=>exact rfl);(case aF=>exact (fun k_ hk=>Kd.fresh' (Kd.R_lt (uR HO_340000)) k_ hk));(case aO=>exact (uR HO_9));(case aS=>exact (Qbs (w:=w) (g:=g) (row:=none) (vK HK)));(case aL=>have:=LMc43.out;omega);intro v362 w48 ho hb hg hat;rw [←Ny361.out] at ho;replace HO_340000:=Zk (Kd.R_after (ok:=(fun _=>True)) (Kd.R_mono (uR HO_340000) (fun _ hk=>⟨trivial,hk⟩)) hg hat);replace BK333:=Zk (Qb8 (uK BK333) hg (Kd.R_ne HO_9.out BK333.out (by decide)));replace BK339:=Zk (Qb8 (uK BK339) hg (Kd.R_ne HO_9.out BK339.out (by decide)));replace HI0:=Zk (Qa.grown (Qa.vI HI0) hg (Qa.own_ne HI0.out HO_9.out (by decide)));replace HB:=Zk (Qf6 (Qa.vB HB) HL.out hb);replace HK:=Zk (Qj.trans (vK HK) (Qj.of_grown hg g) (Kd.R_base2 HO_9.out));have HO363:=Zk (ho);clear HO_9;clear ho hb hg hat;have hcz49_0:=bC BK339;have hfz49_0:=Qg BK339.out 0;have hnb50:=NB333_0.out;have hnc50:=NB0_333.out;have hcz51_0:=bC BK333;have hfz51_0:=Qg BK333.out 0));refine bodyPost_ret (Qew rfl _ _ gb333 26 #[.slice Ao8 t334.length co8] (0,0) _ rfl bP Try.underlying26 rfl (by kernel_rfl)) rfl ?_;exact ⟨_,_,by first|rfl|(simp [Qe,Qf] <;>rfl)|(simp [*,Qe,Qf] <;>rfl),by (with_reducible repeat (first|apply Kd.R_alloc|apply Kd.R_drewN|apply Kd.R_drew));exact Kd.R_mono (Kd.R_far (p:=⟨gb333,0,none⟩) (Kd.R_types HO_340000.out BK333.out (by decide)) (fun _ hk=>hk.2) (.slice Ao8 t334.length co8)) (fun _ hk=>hk.1.2),by (with_reducible repeat (first|apply Kd.R_alloc|apply Kd.R_drewN|apply Kd.R_drew));exact Kd.R_mono (Kd.R_far (p:=⟨gb333,0,none⟩) (Kd.R_types HO363.out BK333.out (by decide)) (fun _ hk=>hk.2) (.slice Ao8 t334.length co8)) (fun _ hk=>hk.1),(Qa.vI HI0),(Qa.vB HB),(vK HK)⟩
     ·
      rw [if_neg c43] at H;exact absurd H (by simp)
    ·
     rw [if_neg c42] at H;have c42b0:(t358==0)=false:=beq_eq_false_iff_ne.mpr c42;have c42b1:(t358 !=0)=true:=bne_iff_ne.mpr c42
     by_cases c52:t358=1
     ·
      rw [if_pos c52] at H;have c52b0:(t358==1)=true:=beq_iff_eq.mpr c52;have c52b1:(t358 !=1)=false:=bne_eq_false_iff_eq.mpr c52;clear c52
      by_cases c53:(x9_1.length:Int)>0
      ·
       rw [if_pos c53] at H;have c53b0:=decide_eq_true c53;have c53b1:decide (0<x9_1.length)=true:=decide_eq_true (by omega);clear c53;obtain ⟨⟨t364,t365,t366⟩,A54,H⟩:=bs H;(try dsimp only at H)
       obtain ⟨y367,hy367⟩: ∃ y_:List Int,y_=(([(-1),0,t343,wrap64 (t343+1),4611686018427387904] :List Int)):=⟨_,rfl⟩
       replace H:((Qbh.f s0_0 t365 t366 y367).bind fun bt370=>(if 0≤t364 then (if t364<(x9_1.length:Int) then (some (t334,(x9_1.set (t364:Int).toNat bt370.1),t343,bt370.2.1,bt370.2.2)) else (none)) else (none)))=some (r1,r2,r3,r4,r5):=by first|(rw [hy367];with_reducible exact H)|(have H2_:=(Option.bind_some _ _).symm.trans H;rw [hy367];with_reducible exact H2_)|(have H2_:=(Option.bind_some _ _).symm.trans H;with_reducible exact H2_)|with_reducible exact H|(rw [hy367];exact H)|exact H
       have Ny367:=Zk hy367;clear hy367;obtain ⟨⟨t370,t371,t372⟩,A55,H⟩:=bs H;(try dsimp only at H)
       by_cases c56:0≤t364
       ·
        rw [if_pos c56] at H;have c56b0:=decide_eq_true c56;clear c56
        by_cases c57:t364<(x9_1.length:Int)
        ·
         rw [if_pos c57] at H;have c57b0:=decide_eq_true c57;clear c57;obtain ⟨y373,hy373⟩: ∃ y_:List Int,y_=(x9_1.set (t364:Int).toNat t370):=⟨_,rfl⟩
         replace H:(some (t334,y373,t343,t371,t372))=some (r1,r2,r3,r4,r5):=by first|(rw [hy373];with_reducible exact H)|(have H2_:=(Option.bind_some _ _).symm.trans H;rw [hy373];with_reducible exact H2_)|(have H2_:=(Option.bind_some _ _).symm.trans H;with_reducible exact H2_)|with_reducible exact H|(rw [hy373];exact H)|exact H
         have Ny373:=Zk hy373;clear hy373;simp only [Option.some.injEq,Prod.mk.injEq] at H;obtain ⟨rfl,rfl,rfl,rfl,rfl⟩:=H;have hnb59:=NB339_333.out;have hnc59:=NB333_339.out;have hnb60:=NB339_0.out;have hnc60:=NB0_339.out;have hcz61_0:=bC BK339;have hfz61_0:=Qg BK339.out 0;go_wp2_with (first|(refine gA (some 24) Try.func115 #[.int .i64 (t334.length:Int), .int .i64 11] ?_;(with_reducible refine (Qc2.calls (t334.length:Int) 11 t346 _ A16.out).mono ?_);rintro e w' ⟨rfl,⟨nd,rfl⟩⟩;refine ⟨_,rfl,?_⟩;(try (rw [Qes wr];generalize hq_:World.drewN wr _=wr;have n0_:Z0 (Kd.R (Kd.int .i64) 3 wr w.heap.size (fun k_=>some k_≠(u9:Value).ownBlock) (.slice Ao8 t334.length co8) t334):=⟨by rw [←hq_];exact (uR HO_340000)⟩;have n1_:Z0 (Kd.R (Kd.int .i64) 3 wr w.heap.size (fun k_=>some k_≠(.slice Ao8 t334.length co8:Value).ownBlock) u9 x9_1):=⟨by rw [←hq_];exact (uR HO_9)⟩;have n2_:Z0 (wr.heap[gb333]? =some (.cells #[.slice none 0 0] 26 (0,0))):=⟨by rw [←hq_];exact (uK BK333)⟩;have n3_:Z0 (wr.heap[gb339]? =some (.cells #[.slice Ao8 t334.length co8] 26 (0,0))):=⟨by rw [←hq_];exact (uK BK339)⟩;have n4_:Z0 (Qa w0 wr g s0_0 x1001_1 x1002_1):=⟨by rw [←hq_];exact (Qa.vI HI0)⟩;have n5_:Z0 (Qj w wr g none):=⟨by rw [←hq_];exact (vK HK)⟩;have n6_:Z0 (Below w0.heap.size w0 wr):=⟨by rw [←hq_];exact (Qa.vB HB)⟩;clear HO_340000 HO_9 BK333 BK339 HI0 HK HB hq_;have HO_340000:=n0_;have HO_9:=n1_;have BK333:=n2_;have BK339:=n3_;have HI0:=n4_;have HK:=n5_;have HB:=n6_;clear n0_ n1_ n2_ n3_ n4_ n5_ n6_)))|(refine gA (some 59) Try.func58 #[.pointer (some ⟨g,0,none⟩), .int .i64 16] ?_;(with_reducible refine (Qm.calls g s0_0 x1001_1 x1002_1 16 t358 t359 t360 w0 _ (Qa.vI HI0) (Qa.vB HB) A41.out).mono ?_);rintro e w62 ⟨rfl,hi,hb,hk⟩;refine ⟨_,rfl,?_⟩;replace HO_9:=Zk (Kd.R_mono (Kd.R_keep (Qa.apart (show Qa w0 _ g s0_0 x1001_1 x1002_1 from (Qa.vI HI0)) (uR HO_9) (by decide)) hk (fun _ h=>h.2)) (fun _ h=>h.1));replace HO_340000:=Zk (Kd.R_mono (Kd.R_keep (Qa.apart (show Qa w0 _ g s0_0 x1001_1 x1002_1 from (Qa.vI HI0)) (uR HO_340000) (by decide)) hk (fun _ h=>h.2)) (fun _ h=>h.1));replace BK333:=Zk (Qj.blk hk (g':=gb333) (o:= .cells #[.slice none 0 0] 26 (0,0)) (uK BK333) NB333_0.out (by simp));replace BK339:=Zk (Qj.blk hk (g':=gb339) (o:= .cells #[.slice Ao8 t334.length co8] 26 (0,0)) (uK BK339) NB339_0.out (by simp));replace HK:=Zk (Qj.trans (vK HK) hk (.inl rfl));replace HB:=Zk (hb);replace HI0:=Zk (hi);(try clear hb hk hi);obtain ⟨Ao63,co63,eo63⟩:=Kd.R_slice HO_9.out;subst eo63)|(refine gA (some 74) Try.func58 #[.pointer (some ⟨g,0,none⟩), .int .i64 (x9_1.length:Int)] ?_;(with_reducible refine (Qm.calls g s0_0 t359 t360 (x9_1.length:Int) t364 t365 t366 w0 _ (Qa.vI HI0) (Qa.vB HB) A54.out).mono ?_);rintro e w64 ⟨rfl,hi,hb,hk⟩;refine ⟨_,rfl,?_⟩;replace HO_9:=Zk (Kd.R_mono (Kd.R_keep (Qa.apart (show Qa w0 _ g s0_0 t359 t360 from (Qa.vI HI0)) (uR HO_9) (by decide)) hk (fun _ h=>h.2)) (fun _ h=>h.1));replace HO_340000:=Zk (Kd.R_mono (Kd.R_keep (Qa.apart (show Qa w0 _ g s0_0 t359 t360 from (Qa.vI HI0)) (uR HO_340000) (by decide)) hk (fun _ h=>h.2)) (fun _ h=>h.1));replace BK333:=Zk (Qj.blk hk (g':=gb333) (o:= .cells #[.slice none 0 0] 26 (0,0)) (uK BK333) NB333_0.out (by simp));replace BK339:=Zk (Qj.blk hk (g':=gb339) (o:= .cells #[.slice Ao8 t334.length co8] 26 (0,0)) (uK BK339) NB339_0.out (by simp));replace HK:=Zk (Qj.trans (vK HK) hk (.inl rfl));replace HB:=Zk (hb);replace HI0:=Zk (hi);(try clear hb hk hi))|((with_reducible refine Qb2 (N:=79) rfl ?_);refine Kd.R_lit (Kd.int .i64) _ 3 ?hg (N:=79) ?hd (xs:=([(-1),0,t343,wrap64 (t343+1),4611686018427387904] :List Int)) (inner:= [.int .i64 (-1), .int .i64 0, .int .i64 t343, .int .i64 (wrap64 (t343+1)), .int .i64 4611686018427387904]) (ok:=fun _=>True) (okp:=fun _=>True) ?hr ?hp (fun _ hk=>hk) trivial (Below.refl _ _) (Nat.le_refl _) (by simp) ?_;(case hd=>rfl);(case hg=>rfl);(case hr=>first|(go_simp;done)|(go_simp;rfl));(case hp=>exact (Reps.one (show Kd.M (Kd.int .i64) _ _ _ (-1) [.int .i64 (-1)] from rfl) (Reps.one (show Kd.M (Kd.int .i64) _ _ _ 0 [.int .i64 0] from rfl) (Reps.one (show Kd.M (Kd.int .i64) _ _ _ t343 [.int .i64 t343] from rfl) (Reps.one (show Kd.M (Kd.int .i64) _ _ _ (wrap64 (t343+1)) [.int .i64 (wrap64 (t343+1))] from rfl) (Reps.one (show Kd.M (Kd.int .i64) _ _ _ 4611686018427387904 [.int .i64 4611686018427387904] from rfl) (Reps.none _ _)))))));intro v368 w65 ho66 hb hg_ hnew_;clear hg_ hnew_;(first|rw [←Ny367.out] at ho66|(simp only [Int.reduceToNat] at ho66;rw [←Ny367.out] at ho66));have HO369:=Zk (Kd.R_lower (Kd.R_new' (Kd.R_new' ho66 (Kd.R_lt (uR HO_9))) (Kd.R_lt (uR HO_340000))) (Qbs (w:=w) (g:=g) (row:=none) (vK HK)));replace HO_9:=Zk (Kd.R_elder' (uR HO_9) (Kd.R_base ho66) hb);replace HO_340000:=Zk (Kd.R_elder' (uR HO_340000) (Kd.R_base ho66) hb);replace BK333:=Zk (Qd (uK BK333) hb);replace BK339:=Zk (Qd (uK BK339) hb);replace HI0:=Zk (Qa.below (Qa.vI HI0) hb);replace HK:=Zk (Qj.trans (vK HK) (Qj.of_below hb g none) (.inl rfl));replace HB:=Zk (Qc (Qa.vB HB) hb);clear hb ho66;obtain ⟨Ao67,co67,eo67⟩:=Kd.R_slice HO369.out;subst eo67)|(refine gA (some 80) Try.func94 #[.pointer (some ⟨g,0,none⟩), .slice Ao67 y367.length co67] ?_;(with_reducible refine (Qbh.calls g s0_0 t365 t366 _ _ y367 t370 t371 t372 w0 _ (Qa.vI HI0) (Qa.vB HB) (uE HO369) ?side4 ?side5 A55.out).mono ?_);(case side4=>exact (Kd.R_reads' HO369.out).2.1);(case side5=>exact Qeh (Qa.own_ne HI0.out HO369.out (by decide)));rintro e w68 ⟨rfl,hi,hb,hk⟩;refine ⟨_,rfl,?_⟩;replace HO_9:=Zk (Kd.R_mono (Kd.R_keep (Qa.apart (show Qa w0 _ g s0_0 t365 t366 from (Qa.vI HI0)) (uR HO_9) (by decide)) hk (fun _ h=>h.2)) (fun _ h=>h.1));replace HO_340000:=Zk (Kd.R_mono (Kd.R_keep (Qa.apart (show Qa w0 _ g s0_0 t365 t366 from (Qa.vI HI0)) (uR HO_340000) (by decide)) hk (fun _ h=>h.2)) (fun _ h=>h.1));replace BK333:=Zk (Qj.blk hk (g':=gb333) (o:= .cells #[.slice none 0 0] 26 (0,0)) (uK BK333) NB333_0.out (by simp));replace BK339:=Zk (Qj.blk hk (g':=gb339) (o:= .cells #[.slice Ao8 t334.length co8] 26 (0,0)) (uK BK339) NB339_0.out (by simp));replace HO369:=Zk (Kd.R_mono (Kd.R_keep (Qa.apart (show Qa w0 _ g s0_0 t365 t366 from (Qa.vI HI0)) (uR HO369) (by decide)) hk (fun _ h=>h.2)) (fun _ h=>h.1));replace HK:=Zk (Qj.trans (vK HK) hk (.inl rfl));replace HB:=Zk (hb);replace HI0:=Zk (hi);(try clear hb hk hi);have p58:0≤(t364:Int):=of_decide_eq_true (by first|(with_reducible assumption)|assumption);have q58:(t364:Int)<((x9_1.length:Int):Int):=of_decide_eq_true (by first|(with_reducible assumption)|assumption);obtain ⟨go58,co58,eo58,gb58,gl58,cl58,HG58⟩:=Kd.R_form HO_9.out (by omega);(first|cases eo58|(injection eo58 with ea_ en_ ec_;(first|subst ea_|(injection ea_ with ea_;subst ea_));subst ec_;clear en_));have GB58:=Zk gb58;have GG58:=Zk HG58;clear gb58 gl58 HG58;obtain ⟨hx58_0,hf58_0⟩:=Kd.R_celln 0 HO_9.out (t364:Int) p58 q58;replace p58:=eq_true p58;replace q58:=eq_true q58;obtain ⟨hy69_,hz69_⟩:=Kd.R_celln 0 HO_9.out (t364:Int) (of_decide_eq_true (by first|(with_reducible assumption)|assumption)) (of_decide_eq_true (by first|(with_reducible assumption)|assumption));have HP69:=Kd.R_putg HO_9.out (t364:Int) t370)|((with_reducible refine Qf9 (t:=3) (p:=81) rfl ?_);refine Qfv (t:=3) (p:=81) (v:= ?vo_w70) (w1:=(w68.setCell ⟨go58,(t364:Int).toNat,none⟩ (.int .i64 t370))) ?hg ?ho ?hn ?hr ?_;(case ho=>rfl);(case hg=>rfl);(case hn=>rfl);(case hr=>first|(go_simp;done)|(go_simp;rfl));intro w70 hw;have hg:w68.grownBy w70 (some go58):=(by rw [hw];exact HP69.2);have hp_:Kd.R (Kd.int .i64) 3 w70 w.heap.size (fun k_=>some k_≠(.slice Ao8 t334.length co8:Value).ownBlock∧some k_≠(.slice Ao67 y367.length co67:Value).ownBlock) (.slice (some ⟨go58,0,none⟩) x9_1.length co63) y373:=(by rw [hw,Ny373.out];exact HP69.1);clear HP69;replace HO_340000:=Zk (Kd.R_after (v:=(.slice (some ⟨go58,0,none⟩) x9_1.length co63)) (v1:=(.slice (some ⟨go58,0,none⟩) x9_1.length co63)) (ok:=(fun k_=>some k_≠(.slice Ao67 y367.length co67:Value).ownBlock)) (Kd.R_mono (uR HO_340000) (fun _ hk=>⟨hk.2,hk.1⟩)) hg (.inl rfl));replace BK333:=Zk (Qb8 (uK BK333) hg (Kd.R_ne HO_9.out BK333.out (by decide)));replace BK339:=Zk (Qb8 (uK BK339) hg (Kd.R_ne HO_9.out BK339.out (by decide)));replace HI0:=Zk (Qa.grown (Qa.vI HI0) hg (Qa.own_ne HI0.out HO_9.out (by decide)));replace HO369:=Zk (Kd.R_after (v:=(.slice (some ⟨go58,0,none⟩) x9_1.length co63)) (v1:=(.slice (some ⟨go58,0,none⟩) x9_1.length co63)) (ok:=(fun k_=>some k_≠(.slice Ao8 t334.length co8:Value).ownBlock)) (Kd.R_mono (uR HO369) (fun _ hk=>⟨hk.2,hk.1.2⟩)) hg (.inl rfl));replace HB:=Zk ((by rw [hw];exact Q1 (HB.out) (Nat.le_trans HL.out GB58.out):Below w0.heap.size w0 w70));replace HK:=Zk (Qj.trans (vK HK) (Qj.of_grown hg g) (Kd.R_base2 HO_9.out));replace HO_9:=Zk (hp_);clear hg hw hp_;have hcz71_0:=bC BK339;have hfz71_0:=Qg BK339.out 0;have hnb72:=NB333_0.out;have hnc72:=NB0_333.out;have hcz73_0:=bC BK333;have hfz73_0:=Qg BK333.out 0))
         refine bodyPost_ret (Qew rfl _ _ gb333 26 #[.slice Ao8 t334.length co8] (0,0) _ rfl bP Try.underlying26 rfl (by kernel_rfl)) rfl ?_;exact ⟨_,_,by first|rfl|(simp [Qe,Qf] <;>rfl)|(simp [*,Qe,Qf] <;>rfl),by (with_reducible repeat (first|apply Kd.R_alloc|apply Kd.R_drewN|apply Kd.R_drew));exact Kd.R_mono (Kd.R_far (p:=⟨gb333,0,none⟩) (Kd.R_types HO_340000.out BK333.out (by decide)) (fun _ hk=>hk.2) (.slice Ao8 t334.length co8)) (fun _ hk=>hk.1.2),by (with_reducible repeat (first|apply Kd.R_alloc|apply Kd.R_drewN|apply Kd.R_drew));exact Kd.R_mono (Kd.R_far (p:=⟨gb333,0,none⟩) (Kd.R_types HO_9.out BK333.out (by decide)) (fun _ hk=>hk.2) (.slice Ao8 t334.length co8)) (fun _ hk=>hk.1.1),(Qa.vI HI0),(Qa.vB HB),(vK HK)⟩
        ·
         rw [if_neg c57] at H;exact absurd H (by simp)
       ·
        rw [if_neg c56] at H;exact absurd H (by simp)
      ·
       rw [if_neg c53] at H;have c53b0:=decide_eq_false c53;have c53b1:decide (0<x9_1.length)=false:=decide_eq_false (by omega);clear c53;simp only [Option.some.injEq,Prod.mk.injEq] at H;obtain ⟨rfl,rfl,rfl,rfl,rfl⟩:=H;have hnb74:=NB339_333.out;have hnc74:=NB333_339.out;have hnb75:=NB339_0.out;have hnc75:=NB0_339.out;have hcz76_0:=bC BK339;have hfz76_0:=Qg BK339.out 0;go_wp2_with (first|(refine gA (some 24) Try.func115 #[.int .i64 (t334.length:Int), .int .i64 11] ?_;(with_reducible refine (Qc2.calls (t334.length:Int) 11 t346 _ A16.out).mono ?_);rintro e w' ⟨rfl,⟨nd,rfl⟩⟩;refine ⟨_,rfl,?_⟩;(try (rw [Qes wr];generalize hq_:World.drewN wr _=wr;have n0_:Z0 (Kd.R (Kd.int .i64) 3 wr w.heap.size (fun k_=>some k_≠(u9:Value).ownBlock) (.slice Ao8 t334.length co8) t334):=⟨by rw [←hq_];exact (uR HO_340000)⟩;have n1_:Z0 (Kd.R (Kd.int .i64) 3 wr w.heap.size (fun k_=>some k_≠(.slice Ao8 t334.length co8:Value).ownBlock) u9 x9_1):=⟨by rw [←hq_];exact (uR HO_9)⟩;have n2_:Z0 (wr.heap[gb333]? =some (.cells #[.slice none 0 0] 26 (0,0))):=⟨by rw [←hq_];exact (uK BK333)⟩;have n3_:Z0 (wr.heap[gb339]? =some (.cells #[.slice Ao8 t334.length co8] 26 (0,0))):=⟨by rw [←hq_];exact (uK BK339)⟩;have n4_:Z0 (Qa w0 wr g s0_0 x1001_1 x1002_1):=⟨by rw [←hq_];exact (Qa.vI HI0)⟩;have n5_:Z0 (Qj w wr g none):=⟨by rw [←hq_];exact (vK HK)⟩;have n6_:Z0 (Below w0.heap.size w0 wr):=⟨by rw [←hq_];exact (Qa.vB HB)⟩;clear HO_340000 HO_9 BK333 BK339 HI0 HK HB hq_;have HO_340000:=n0_;have HO_9:=n1_;have BK333:=n2_;have BK339:=n3_;have HI0:=n4_;have HK:=n5_;have HB:=n6_;clear n0_ n1_ n2_ n3_ n4_ n5_ n6_)))|(refine gA (some 59) Try.func58 #[.pointer (some ⟨g,0,none⟩), .int .i64 16] ?_;(with_reducible refine (Qm.calls g s0_0 x1001_1 x1002_1 16 t358 t359 t360 w0 _ (Qa.vI HI0) (Qa.vB HB) A41.out).mono ?_);rintro e w77 ⟨rfl,hi,hb,hk⟩;refine ⟨_,rfl,?_⟩;replace HO_9:=Zk (Kd.R_mono (Kd.R_keep (Qa.apart (show Qa w0 _ g s0_0 x1001_1 x1002_1 from (Qa.vI HI0)) (uR HO_9) (by decide)) hk (fun _ h=>h.2)) (fun _ h=>h.1));replace HO_340000:=Zk (Kd.R_mono (Kd.R_keep (Qa.apart (show Qa w0 _ g s0_0 x1001_1 x1002_1 from (Qa.vI HI0)) (uR HO_340000) (by decide)) hk (fun _ h=>h.2)) (fun _ h=>h.1));replace BK333:=Zk (Qj.blk hk (g':=gb333) (o:= .cells #[.slice none 0 0] 26 (0,0)) (uK BK333) NB333_0.out (by simp));replace BK339:=Zk (Qj.blk hk (g':=gb339) (o:= .cells #[.slice Ao8 t334.length co8] 26 (0,0)) (uK BK339) NB339_0.out (by simp));replace HK:=Zk (Qj.trans (vK HK) hk (.inl rfl));replace HB:=Zk (hb);replace HI0:=Zk (hi);(try clear hb hk hi);obtain ⟨Ao78,co78,eo78⟩:=Kd.R_slice HO_9.out;subst eo78;have hcz79_0:=bC BK339;have hfz79_0:=Qg BK339.out 0;have hnb80:=NB333_0.out;have hnc80:=NB0_333.out;have hcz81_0:=bC BK333;have hfz81_0:=Qg BK333.out 0));refine bodyPost_ret (Qew rfl _ _ gb333 26 #[.slice Ao8 t334.length co8] (0,0) _ rfl bP Try.underlying26 rfl (by kernel_rfl)) rfl ?_;exact ⟨_,_,by first|rfl|(simp [Qe,Qf] <;>rfl)|(simp [*,Qe,Qf] <;>rfl),by (with_reducible repeat (first|apply Kd.R_alloc|apply Kd.R_drewN|apply Kd.R_drew));exact Kd.R_mono (Kd.R_far (p:=⟨gb333,0,none⟩) (Kd.R_types HO_340000.out BK333.out (by decide)) (fun _ hk=>hk.2) (.slice Ao8 t334.length co8)) (fun _ hk=>hk.1),by (with_reducible repeat (first|apply Kd.R_alloc|apply Kd.R_drewN|apply Kd.R_drew));exact Kd.R_mono (Kd.R_far (p:=⟨gb333,0,none⟩) (Kd.R_types HO_9.out BK333.out (by decide)) (fun _ hk=>hk.2) (.slice Ao8 t334.length co8)) (fun _ hk=>hk.1),(Qa.vI HI0),(Qa.vB HB),(vK HK)⟩
     ·
      rw [if_neg c52] at H;have c52b0:(t358==1)=false:=beq_eq_false_iff_ne.mpr c52;have c52b1:(t358 !=1)=true:=bne_iff_ne.mpr c52
      by_cases c82:t358=2
      ·
       rw [if_pos c82] at H;have c82b0:(t358==2)=true:=beq_iff_eq.mpr c82;have c82b1:(t358 !=2)=false:=bne_eq_false_iff_eq.mpr c82;clear c82;obtain ⟨y374,hy374⟩: ∃ y_:List Int,y_=(([(-1),21,0] :List Int)):=⟨_,rfl⟩
       replace H:((Qbh.f s0_0 t359 t360 y374).bind fun bt377=>(some (t334,x9_1,bt377.1,bt377.2.1,bt377.2.2)))=some (r1,r2,r3,r4,r5):=by first|(rw [hy374];with_reducible exact H)|(have H2_:=(Option.bind_some _ _).symm.trans H;rw [hy374];with_reducible exact H2_)|(have H2_:=(Option.bind_some _ _).symm.trans H;with_reducible exact H2_)|with_reducible exact H|(rw [hy374];exact H)|exact H
       have Ny374:=Zk hy374;clear hy374;obtain ⟨⟨t377,t378,t379⟩,A83,H⟩:=bs H;(try dsimp only at H)
       simp only [Option.some.injEq,Prod.mk.injEq] at H;obtain ⟨rfl,rfl,rfl,rfl,rfl⟩:=H;have hnb84:=NB339_333.out;have hnc84:=NB333_339.out;have hnb85:=NB339_0.out;have hnc85:=NB0_339.out;have hcz86_0:=bC BK339;have hfz86_0:=Qg BK339.out 0;go_wp2_with (first|(refine gA (some 24) Try.func115 #[.int .i64 (t334.length:Int), .int .i64 11] ?_;(with_reducible refine (Qc2.calls (t334.length:Int) 11 t346 _ A16.out).mono ?_);rintro e w' ⟨rfl,⟨nd,rfl⟩⟩;refine ⟨_,rfl,?_⟩;(try (rw [Qes wr];generalize hq_:World.drewN wr _=wr;have n0_:Z0 (Kd.R (Kd.int .i64) 3 wr w.heap.size (fun k_=>some k_≠(u9:Value).ownBlock) (.slice Ao8 t334.length co8) t334):=⟨by rw [←hq_];exact (uR HO_340000)⟩;have n1_:Z0 (Kd.R (Kd.int .i64) 3 wr w.heap.size (fun k_=>some k_≠(.slice Ao8 t334.length co8:Value).ownBlock) u9 x9_1):=⟨by rw [←hq_];exact (uR HO_9)⟩;have n2_:Z0 (wr.heap[gb333]? =some (.cells #[.slice none 0 0] 26 (0,0))):=⟨by rw [←hq_];exact (uK BK333)⟩;have n3_:Z0 (wr.heap[gb339]? =some (.cells #[.slice Ao8 t334.length co8] 26 (0,0))):=⟨by rw [←hq_];exact (uK BK339)⟩;have n4_:Z0 (Qa w0 wr g s0_0 x1001_1 x1002_1):=⟨by rw [←hq_];exact (Qa.vI HI0)⟩;have n5_:Z0 (Qj w wr g none):=⟨by rw [←hq_];exact (vK HK)⟩;have n6_:Z0 (Below w0.heap.size w0 wr):=⟨by rw [←hq_];exact (Qa.vB HB)⟩;clear HO_340000 HO_9 BK333 BK339 HI0 HK HB hq_;have HO_340000:=n0_;have HO_9:=n1_;have BK333:=n2_;have BK339:=n3_;have HI0:=n4_;have HK:=n5_;have HB:=n6_;clear n0_ n1_ n2_ n3_ n4_ n5_ n6_)))|(refine gA (some 59) Try.func58 #[.pointer (some ⟨g,0,none⟩), .int .i64 16] ?_;(with_reducible refine (Qm.calls g s0_0 x1001_1 x1002_1 16 t358 t359 t360 w0 _ (Qa.vI HI0) (Qa.vB HB) A41.out).mono ?_);rintro e w87 ⟨rfl,hi,hb,hk⟩;refine ⟨_,rfl,?_⟩;replace HO_9:=Zk (Kd.R_mono (Kd.R_keep (Qa.apart (show Qa w0 _ g s0_0 x1001_1 x1002_1 from (Qa.vI HI0)) (uR HO_9) (by decide)) hk (fun _ h=>h.2)) (fun _ h=>h.1));replace HO_340000:=Zk (Kd.R_mono (Kd.R_keep (Qa.apart (show Qa w0 _ g s0_0 x1001_1 x1002_1 from (Qa.vI HI0)) (uR HO_340000) (by decide)) hk (fun _ h=>h.2)) (fun _ h=>h.1));replace BK333:=Zk (Qj.blk hk (g':=gb333) (o:= .cells #[.slice none 0 0] 26 (0,0)) (uK BK333) NB333_0.out (by simp));replace BK339:=Zk (Qj.blk hk (g':=gb339) (o:= .cells #[.slice Ao8 t334.length co8] 26 (0,0)) (uK BK339) NB339_0.out (by simp));replace HK:=Zk (Qj.trans (vK HK) hk (.inl rfl));replace HB:=Zk (hb);replace HI0:=Zk (hi);(try clear hb hk hi))|((with_reducible refine Qb2 (N:=85) rfl ?_);refine Kd.R_lit (Kd.int .i64) _ 3 ?hg (N:=85) ?hd (xs:=([(-1),21,0] :List Int)) (inner:= [.int .i64 (-1), .int .i64 21, .int .i64 0]) (ok:=fun _=>True) (okp:=fun _=>True) ?hr ?hp (fun _ hk=>hk) trivial (Below.refl _ _) (Nat.le_refl _) (by simp) ?_;(case hd=>rfl);(case hg=>rfl);(case hr=>first|(go_simp;done)|(go_simp;rfl));(case hp=>exact (Reps.one (show Kd.M (Kd.int .i64) _ _ _ (-1) [.int .i64 (-1)] from rfl) (Reps.one (show Kd.M (Kd.int .i64) _ _ _ 21 [.int .i64 21] from rfl) (Reps.one (show Kd.M (Kd.int .i64) _ _ _ 0 [.int .i64 0] from rfl) (Reps.none _ _)))));intro v375 w88 ho89 hb hg_ hnew_;clear hg_ hnew_;(first|rw [←Ny374.out] at ho89|(simp only [Int.reduceToNat] at ho89;rw [←Ny374.out] at ho89));have HO376:=Zk (Kd.R_lower (Kd.R_new' (Kd.R_new' ho89 (Kd.R_lt (uR HO_9))) (Kd.R_lt (uR HO_340000))) (Qbs (w:=w) (g:=g) (row:=none) (vK HK)));replace HO_9:=Zk (Kd.R_elder' (uR HO_9) (Kd.R_base ho89) hb);replace HO_340000:=Zk (Kd.R_elder' (uR HO_340000) (Kd.R_base ho89) hb);replace BK333:=Zk (Qd (uK BK333) hb);replace BK339:=Zk (Qd (uK BK339) hb);replace HI0:=Zk (Qa.below (Qa.vI HI0) hb);replace HK:=Zk (Qj.trans (vK HK) (Qj.of_below hb g none) (.inl rfl));replace HB:=Zk (Qc (Qa.vB HB) hb);clear hb ho89;obtain ⟨Ao90,co90,eo90⟩:=Kd.R_slice HO376.out;subst eo90)|(refine gA (some 86) Try.func94 #[.pointer (some ⟨g,0,none⟩), .slice Ao90 y374.length co90] ?_;(with_reducible refine (Qbh.calls g s0_0 t359 t360 _ _ y374 t377 t378 t379 w0 _ (Qa.vI HI0) (Qa.vB HB) (uE HO376) ?side4 ?side5 A83.out).mono ?_);(case side4=>exact (Kd.R_reads' HO376.out).2.1);(case side5=>exact Qeh (Qa.own_ne HI0.out HO376.out (by decide)));rintro e w91 ⟨rfl,hi,hb,hk⟩;refine ⟨_,rfl,?_⟩;replace HO_9:=Zk (Kd.R_mono (Kd.R_keep (Qa.apart (show Qa w0 _ g s0_0 t359 t360 from (Qa.vI HI0)) (uR HO_9) (by decide)) hk (fun _ h=>h.2)) (fun _ h=>h.1));replace HO_340000:=Zk (Kd.R_mono (Kd.R_keep (Qa.apart (show Qa w0 _ g s0_0 t359 t360 from (Qa.vI HI0)) (uR HO_340000) (by decide)) hk (fun _ h=>h.2)) (fun _ h=>h.1));replace BK333:=Zk (Qj.blk hk (g':=gb333) (o:= .cells #[.slice none 0 0] 26 (0,0)) (uK BK333) NB333_0.out (by simp));replace BK339:=Zk (Qj.blk hk (g':=gb339) (o:= .cells #[.slice Ao8 t334.length co8] 26 (0,0)) (uK BK339) NB339_0.out (by simp));replace HO376:=Zk (Kd.R_mono (Kd.R_keep (Qa.apart (show Qa w0 _ g s0_0 t359 t360 from (Qa.vI HI0)) (uR HO376) (by decide)) hk (fun _ h=>h.2)) (fun _ h=>h.1));replace HK:=Zk (Qj.trans (vK HK) hk (.inl rfl));replace HB:=Zk (hb);replace HI0:=Zk (hi);(try clear hb hk hi);have hcz92_0:=bC BK339;have hfz92_0:=Qg BK339.out 0;have hnb93:=NB333_0.out;have hnc93:=NB0_333.out;have hcz94_0:=bC BK333;have hfz94_0:=Qg BK333.out 0))
       refine bodyPost_ret (Qew rfl _ _ gb333 26 #[.slice Ao8 t334.length co8] (0,0) _ rfl bP Try.underlying26 rfl (by kernel_rfl)) rfl ?_;exact ⟨_,_,by first|rfl|(simp [Qe,Qf] <;>rfl)|(simp [*,Qe,Qf] <;>rfl),by (with_reducible repeat (first|apply Kd.R_alloc|apply Kd.R_drewN|apply Kd.R_drew));exact Kd.R_mono (Kd.R_far (p:=⟨gb333,0,none⟩) (Kd.R_types HO_340000.out BK333.out (by decide)) (fun _ hk=>hk.2) (.slice Ao8 t334.length co8)) (fun _ hk=>hk.1.1),by (with_reducible repeat (first|apply Kd.R_alloc|apply Kd.R_drewN|apply Kd.R_drew));exact Kd.R_mono (Kd.R_far (p:=⟨gb333,0,none⟩) (Kd.R_types HO_9.out BK333.out (by decide)) (fun _ hk=>hk.2) (.slice Ao8 t334.length co8)) (fun _ hk=>hk.1.1),(Qa.vI HI0),(Qa.vB HB),(vK HK)⟩
      ·
       rw [if_neg c82] at H;have c82b0:(t358==2)=false:=beq_eq_false_iff_ne.mpr c82;have c82b1:(t358 !=2)=true:=bne_iff_ne.mpr c82;simp only [Option.some.injEq,Prod.mk.injEq] at H;obtain ⟨rfl,rfl,rfl,rfl,rfl⟩:=H;have hnb95:=NB339_333.out;have hnc95:=NB333_339.out;have hnb96:=NB339_0.out;have hnc96:=NB0_339.out;have hcz97_0:=bC BK339;have hfz97_0:=Qg BK339.out 0;go_wp2_with (first|(refine gA (some 24) Try.func115 #[.int .i64 (t334.length:Int), .int .i64 11] ?_;(with_reducible refine (Qc2.calls (t334.length:Int) 11 t346 _ A16.out).mono ?_);rintro e w' ⟨rfl,⟨nd,rfl⟩⟩;refine ⟨_,rfl,?_⟩;(try (rw [Qes wr];generalize hq_:World.drewN wr _=wr;have n0_:Z0 (Kd.R (Kd.int .i64) 3 wr w.heap.size (fun k_=>some k_≠(u9:Value).ownBlock) (.slice Ao8 t334.length co8) t334):=⟨by rw [←hq_];exact (uR HO_340000)⟩;have n1_:Z0 (Kd.R (Kd.int .i64) 3 wr w.heap.size (fun k_=>some k_≠(.slice Ao8 t334.length co8:Value).ownBlock) u9 x9_1):=⟨by rw [←hq_];exact (uR HO_9)⟩;have n2_:Z0 (wr.heap[gb333]? =some (.cells #[.slice none 0 0] 26 (0,0))):=⟨by rw [←hq_];exact (uK BK333)⟩;have n3_:Z0 (wr.heap[gb339]? =some (.cells #[.slice Ao8 t334.length co8] 26 (0,0))):=⟨by rw [←hq_];exact (uK BK339)⟩;have n4_:Z0 (Qa w0 wr g s0_0 x1001_1 x1002_1):=⟨by rw [←hq_];exact (Qa.vI HI0)⟩;have n5_:Z0 (Qj w wr g none):=⟨by rw [←hq_];exact (vK HK)⟩;have n6_:Z0 (Below w0.heap.size w0 wr):=⟨by rw [←hq_];exact (Qa.vB HB)⟩;clear HO_340000 HO_9 BK333 BK339 HI0 HK HB hq_;have HO_340000:=n0_;have HO_9:=n1_;have BK333:=n2_;have BK339:=n3_;have HI0:=n4_;have HK:=n5_;have HB:=n6_;clear n0_ n1_ n2_ n3_ n4_ n5_ n6_)))|(refine gA (some 59) Try.func58 #[.pointer (some ⟨g,0,none⟩), .int .i64 16] ?_;(with_reducible refine (Qm.calls g s0_0 x1001_1 x1002_1 16 t358 t359 t360 w0 _ (Qa.vI HI0) (Qa.vB HB) A41.out).mono ?_);rintro e w98 ⟨rfl,hi,hb,hk⟩;refine ⟨_,rfl,?_⟩;replace HO_9:=Zk (Kd.R_mono (Kd.R_keep (Qa.apart (show Qa w0 _ g s0_0 x1001_1 x1002_1 from (Qa.vI HI0)) (uR HO_9) (by decide)) hk (fun _ h=>h.2)) (fun _ h=>h.1));replace HO_340000:=Zk (Kd.R_mono (Kd.R_keep (Qa.apart (show Qa w0 _ g s0_0 x1001_1 x1002_1 from (Qa.vI HI0)) (uR HO_340000) (by decide)) hk (fun _ h=>h.2)) (fun _ h=>h.1));replace BK333:=Zk (Qj.blk hk (g':=gb333) (o:= .cells #[.slice none 0 0] 26 (0,0)) (uK BK333) NB333_0.out (by simp));replace BK339:=Zk (Qj.blk hk (g':=gb339) (o:= .cells #[.slice Ao8 t334.length co8] 26 (0,0)) (uK BK339) NB339_0.out (by simp));replace HK:=Zk (Qj.trans (vK HK) hk (.inl rfl));replace HB:=Zk (hb);replace HI0:=Zk (hi);(try clear hb hk hi);have hcz99_0:=bC BK339;have hfz99_0:=Qg BK339.out 0;have hnb100:=NB333_0.out;have hnc100:=NB0_333.out;have hcz101_0:=bC BK333;have hfz101_0:=Qg BK333.out 0));refine bodyPost_ret (Qew rfl _ _ gb333 26 #[.slice Ao8 t334.length co8] (0,0) _ rfl bP Try.underlying26 rfl (by kernel_rfl)) rfl ?_;exact ⟨_,_,by first|rfl|(simp [Qe,Qf] <;>rfl)|(simp [*,Qe,Qf] <;>rfl),by (with_reducible repeat (first|apply Kd.R_alloc|apply Kd.R_drewN|apply Kd.R_drew));exact Kd.R_mono (Kd.R_far (p:=⟨gb333,0,none⟩) (Kd.R_types HO_340000.out BK333.out (by decide)) (fun _ hk=>hk.2) (.slice Ao8 t334.length co8)) (fun _ hk=>hk.1),by (with_reducible repeat (first|apply Kd.R_alloc|apply Kd.R_drewN|apply Kd.R_drew));exact Kd.R_mono (Kd.R_far (p:=⟨gb333,0,none⟩) (Kd.R_types HO_9.out BK333.out (by decide)) (fun _ hk=>hk.2) (.slice Ao8 t334.length co8)) (fun _ hk=>hk.1),(Qa.vI HI0),(Qa.vB HB),(vK HK)⟩
def Qdi.f (k:Nat) (l0:List Int):Option (List Int × List Int × Int):=(Qy.f k l0 0 0 10).bind fun bt382=>(some (bt382.1,bt382.2.1,bt382.2.2.1))
theorem Qdi.mono: ∀ a0 k,LeO (Qdi.f k a0) (Qdi.f (k+1) a0):=by
 intro a0 k;unfold Qdi.f
 repeat' (with_reducible first|apply Qy.mono|exact LeO.refl _|exact LeO.none _|refine LeO.ite ?_ ?_|refine LeO.bind ?_ (fun _=> ?_))
set_option maxHeartbeats 8000000 in
set_option maxRecDepth 100000 in
theorem Qdi.calls (k:Nat) (A0:Option Addr) (c0:Nat) (l0:List Int) (r1:List Int) (r2:List Int) (r3:Int) (w:World) (hr0:Kd.C (Kd.int .u8) w A0 l0.length l0) (hc0:l0.length≤c0) (h:Qdi.f k l0=some (r1,r2,r3)):
 Calls Try.prog 73 #[.slice A0 l0.length c0] w fun e w'=> ∃ v0_ v1_:Value,e= .returned (.tuple #[.agg #[v0_],v1_, .int .i64 r3])∧Kd.R (Kd.int .i64) 3 w' w.heap.size (fun k_=>some k_≠(v1_:Value).ownBlock) v0_ r1∧Kd.R (Kd.int .i64) 3 w' w.heap.size (fun k_=>some k_≠(v0_:Value).ownBlock) v1_ r2∧Below w.heap.size w w':=by
 have hu26:=Try.underlying26;have hu67:=Try.underlying67;have HR0:=Zk hr0;have HC0:=Zk hc0;clear hr0 hc0;have HB:=Zk (Below.refl w.heap.size w);have H:((Qy.f k l0 0 0 10).bind fun bt382=>(some (bt382.1,bt382.2.1,bt382.2.2.1)))=some (r1,r2,r3):=h;clear h;obtain ⟨⟨t382,t385,t388,t389,t390⟩,A2,H⟩:=bs H;(try dsimp only at H)
 simp only [Option.some.injEq,Prod.mk.injEq] at H;obtain ⟨rfl,rfl,rfl⟩:=H;go_enter Try.func73,Try.ntmps73;go_wp2_with (first|((with_reducible refine Qb2 (N:=2) rfl ?_);refine Qeo ?hg (N:=2) ?hd (cs:= #[.slice none 0 0]) (t:=26) ?hr ?_;(case hd=>rfl);(case hg=>rfl);(case hr=>first|(go_simp;done)|(go_simp;rfl));intro gb380 hg w3 hbox hb;have BK380:=Zk (hbox);have GW380:=Zk ((by rw [hg];exact (Qh (by repeat (first|(with_reducible first|exact HB.out|apply Qq|apply Qw|apply Qbb)|exact HB.out))):w.heap.size≤gb380));have GE380:=GW380;replace HB:=Zk (Qc (by repeat (first|(with_reducible first|exact HB.out|apply Qq|apply Qw|apply Qbb)|exact HB.out)) hb);clear hb hbox hg)|((with_reducible refine Qb2 (N:=8) rfl ?_);refine Qeo ?hg (N:=8) ?hd (cs:= #[.slice A0 l0.length c0, .int .i64 0, .int .u64 0]) (t:=67) ?hr ?_;(case hd=>rfl);(case hg=>rfl);(case hr=>first|(go_simp;done)|(go_simp;rfl));intro gb381 hg w4 hbox hb;have HI381:=Zk ((⟨_,_,hbox,(by rw [hg];exact (Qh (by repeat (first|(with_reducible first|exact HB.out|apply Qq|apply Qw|apply Qbb|refine Q1 ?_ GE380.out)|exact HB.out))):w.heap.size≤gb381),HR0.out⟩:Qa w _ gb381 l0 0 0));have GW381:=Zk ((by rw [hg];exact (Qh (by repeat (first|(with_reducible first|exact HB.out|apply Qq|apply Qw|apply Qbb|refine Q1 ?_ GE380.out)|exact HB.out))):w.heap.size≤gb381));have GE381:=GW381;replace HB:=Zk (Qc (by repeat (first|(with_reducible first|exact HB.out|apply Qq|apply Qw|apply Qbb|refine Q1 ?_ GE380.out)|exact HB.out)) hb);have NB380_381:=Zk ((by rw [hg];exact Nat.ne_of_lt (Qb9 (g:=gb380) (o:= .cells #[.slice none 0 0] 26 (0,0)) (by (with_reducible repeat (first|refine Qbp ?_ _|refine Qbj ?_|refine Qbk ?_ _));exact BK380.out)):gb380≠gb381));have NB381_380:=Zk ((by rw [hg];exact Nat.ne_of_gt (Qb9 (g:=gb380) (o:= .cells #[.slice none 0 0] 26 (0,0)) (by (with_reducible repeat (first|refine Qbp ?_ _|refine Qbj ?_|refine Qbk ?_ _));exact BK380.out)):gb381≠gb380));replace BK380:=Zk (Qd (g:=gb380) (o:= .cells #[.slice none 0 0] 26 (0,0)) (by (with_reducible repeat (first|refine Qbp ?_ _|refine Qbj ?_|refine Qbk ?_ _));exact BK380.out) hb);clear hb hbox hg)|((with_reducible refine Qdx (f:=61) rfl ?_);refine Qe3 (some 10) rfl rfl Try.func61 (by kernel_rfl) rfl #[.pointer (some ⟨gb381,0,none⟩), .int .i64 10] rfl (by (try simp only [List.map_toArray,List.map_cons,List.map_nil]);first|done|rfl|(simp only [List.length_drop,List.length_take];rfl)) ?_;(with_reducible refine (Qy.calls k gb381 l0 0 0 10 t382 t385 t388 t389 t390 w _ ?side1 ?side2 A2.out).mono ?_);(case side1=>repeat (first|(with_reducible first|exact HI381.out|apply Qa.alloc|apply Qa.drewN|apply Qa.drew|apply Qa.set_1|apply Qa.set_2|refine Qa.far ?_ NB381_380.out _)|exact HI381.out));(case side2=>repeat (first|(with_reducible first|exact HB.out|apply Qq|apply Qw|apply Qbb|refine Q1 ?_ (Qa.ge HI381.out)|refine Q1 ?_ GE380.out)|exact HB.out));rintro e w5 ⟨v383,v386,rfl,ho0,ho1,hi,hb,hk⟩;refine ⟨_,rfl,?_⟩;replace BK380:=Zk (Qj.blk hk (g':=gb380) (o:= .cells #[.slice none 0 0] 26 (0,0)) (by (with_reducible repeat (first|refine Qbp ?_ _|refine Qbj ?_|refine Qbk ?_ _));exact BK380.out) NB380_381.out (by simp));have HO384:=Zk (Kd.R_lower ho0 (Qh (by repeat (first|(with_reducible first|exact HB.out|apply Qq|apply Qw|apply Qbb|refine Q1 ?_ (Qa.ge HI381.out)|refine Q1 ?_ GE380.out)|exact HB.out))));have HO387:=Zk (Kd.R_lower ho1 (Qh (by repeat (first|(with_reducible first|exact HB.out|apply Qq|apply Qw|apply Qbb|refine Q1 ?_ (Qa.ge HI381.out)|refine Q1 ?_ GE380.out)|exact HB.out))));replace HB:=Zk (hb);replace HI381:=Zk (hi);(try clear hb);(try clear hb2);(try clear hk);(try clear hi);(try clear ho0);(try clear ho1);obtain ⟨Ao6,co6,eo6⟩:=Kd.R_slice HO384.out;subst eo6;have hnb7:=NB380_381.out;have hnc7:=NB381_380.out;have hcz8_0:w5.cell? ⟨gb380,0,none⟩=some (.slice none 0 0):=(Qb4 BK380.out 0).trans rfl;have hfz8_0:=Qg BK380.out 0));refine bodyPost_ret (Qew rfl _ _ gb380 26 #[.slice Ao6 t382.length co6] (0,0) _ rfl (by (with_reducible repeat (first|refine Qbp ?_ _|refine Qbj ?_|refine Qbk ?_ _));refine Qfk (cs:= #[.slice none 0 0]) ?_ 0 _ rfl;(with_reducible repeat (first|refine Qbp ?_ _|refine Qbj ?_|refine Qbk ?_ _));exact BK380.out) Try.underlying26 rfl (by kernel_rfl)) rfl ?_
 exact ⟨_,_,by first|rfl|(simp [Qe,Qf] <;>rfl)|(simp [*,Qe,Qf] <;>rfl),by (with_reducible repeat (first|apply Kd.R_alloc|apply Kd.R_drewN|apply Kd.R_drew));exact Kd.R_mono (Kd.R_far (p:=⟨gb380,0,none⟩) (Kd.R_types HO384.out BK380.out (by decide)) (fun _ hk=>hk.2) (.slice Ao6 t382.length co6)) (fun _ hk=>hk.1),by (with_reducible repeat (first|apply Kd.R_alloc|apply Kd.R_drewN|apply Kd.R_drew));exact Kd.R_mono (Kd.R_far (p:=⟨gb380,0,none⟩) (Kd.R_types HO387.out BK380.out (by decide)) (fun _ hk=>hk.2) (.slice Ao6 t382.length co6)) (fun _ hk=>hk.1),(Qa.vB HB)⟩
def Qc5.f (k:Nat) (l0:List Int):Option (List Int × List Int × Int):=(Qdi.f k l0).bind fun bt392=>(some (bt392.1,bt392.2.1,bt392.2.2))
theorem Qc5.mono: ∀ a0 k,LeO (Qc5.f k a0) (Qc5.f (k+1) a0):=by
 intro a0 k;unfold Qc5.f
 repeat' (with_reducible first|apply Qdi.mono|exact LeO.refl _|exact LeO.none _|refine LeO.ite ?_ ?_|refine LeO.bind ?_ (fun _=> ?_))
set_option maxHeartbeats 8000000 in
set_option maxRecDepth 100000 in
theorem Qc5.calls (k:Nat) (A0:Option Addr) (c0:Nat) (l0:List Int) (r1:List Int) (r2:List Int) (r3:Int) (w:World) (hr0:Kd.C (Kd.int .u8) w A0 l0.length l0) (hc0:l0.length≤c0) (h:Qc5.f k l0=some (r1,r2,r3)):
 Calls Try.prog 36 #[.slice A0 l0.length c0] w fun e w'=> ∃ v0_ v1_:Value,e= .returned (.tuple #[.agg #[v0_],v1_, .int .i64 r3])∧Kd.R (Kd.int .i64) 3 w' w.heap.size (fun k_=>some k_≠(v1_:Value).ownBlock) v0_ r1∧Kd.R (Kd.int .i64) 3 w' w.heap.size (fun k_=>some k_≠(v0_:Value).ownBlock) v1_ r2∧Below w.heap.size w w':=by
 have hu26:=Try.underlying26;have HR0:=Zk hr0;have HC0:=Zk hc0;clear hr0 hc0;have HB:=Zk (Below.refl w.heap.size w);have H:((Qdi.f k l0).bind fun bt392=>(some (bt392.1,bt392.2.1,bt392.2.2)))=some (r1,r2,r3):=h;clear h;obtain ⟨⟨t392,t395,t398⟩,A2,H⟩:=bs H;(try dsimp only at H)
 simp only [Option.some.injEq,Prod.mk.injEq] at H;obtain ⟨rfl,rfl,rfl⟩:=H;go_enter Try.func36,Try.ntmps36;go_wp2_with (first|(refine bE (N:=2) (cs:= #[.slice none 0 0]) (t:=26) ?_;intro gb391 hg w3 hbox hb;have BK391:=Zk (hbox);have GW391:=Zk ((by rw [hg];exact (Qh (uB HB)):w.heap.size≤gb391));have GE391:=GW391;replace HB:=Zk (Qc (uB HB) hb);clear hb hbox hg)|(refine gA (some 6) Try.func73 #[.slice A0 l0.length c0] ?_;(with_reducible refine (Qdi.calls k _ _ l0 t392 t395 t398 _ (uD HR0 HB) HC0.out A2.out).mono ?_);rintro e w4 ⟨v393,v396,rfl,ho0,ho1,hb⟩;refine ⟨_,rfl,?_⟩;have HO394:=Zk (Kd.R_lower ho0 (Qh (vB HB)));have HO397:=Zk (Kd.R_lower ho1 (Qh (vB HB)));replace BK391:=Zk (Qd (uK BK391) hb);replace HB:=Zk (Qc (vB HB) hb);(try clear hb ho0 ho1);obtain ⟨Ao5,co5,eo5⟩:=Kd.R_slice HO394.out;subst eo5;have hcz6_0:=bC BK391;have hfz6_0:=Qg BK391.out 0));refine bodyPost_ret (Qew rfl _ _ gb391 26 #[.slice Ao5 t392.length co5] (0,0) _ rfl bP Try.underlying26 rfl (by kernel_rfl)) rfl ?_;exact ⟨_,_,by first|rfl|(simp [Qe,Qf] <;>rfl)|(simp [*,Qe,Qf] <;>rfl),by (with_reducible repeat (first|apply Kd.R_alloc|apply Kd.R_drewN|apply Kd.R_drew));exact Kd.R_mono (Kd.R_far (p:=⟨gb391,0,none⟩) (Kd.R_types HO394.out BK391.out (by decide)) (fun _ hk=>hk.2) (.slice Ao5 t392.length co5)) (fun _ hk=>hk.1),by (with_reducible repeat (first|apply Kd.R_alloc|apply Kd.R_drewN|apply Kd.R_drew));exact Kd.R_mono (Kd.R_far (p:=⟨gb391,0,none⟩) (Kd.R_types HO397.out BK391.out (by decide)) (fun _ hk=>hk.2) (.slice Ao5 t392.length co5)) (fun _ hk=>hk.1),(vB HB)⟩
mutual
def Q7.l0:Nat→List Int→Int→List Int→Int→Option (List Int)
 |0,_,_,_,_=>none
 |k+1,x1,x3,x9,x10=>if x10≤x3 then (Q7.l1 k x1 x3 x9 x10 0 x1 (x1.length:Int) 0) else (some x9)
def Q7.l1:Nat→List Int→Int→List Int→Int→Int→List Int→Int→Int→Option (List Int)
 |0,_,_,_,_,_,_,_,_=>none
 |k+1,x1,x3,x9,x10,x11,x21,x22,x23=>if x23<x22 then (if 0≤x23 then (if x23<(x21.length:Int) then (if (rd x21 x23)<x10 then (Q7.l1 k x1 x3 x9 x10 (Go.bits .or .i64 x11 (shl .i64 1 x23)) x21 x22 (wrap64 (x23+1))) else (Q7.l1 k x1 x3 x9 x10 x11 x21 x22 (wrap64 (x23+1)))) else (none)) else (none)) else (if x9.length<17592186044416 then (Q7.l0 k x1 x3 (x9++ [x11]) (wrap64 (x10+1))) else (none))
end
def Q7.f (k:Nat) (l0_0:List Int) (l1:List Int) (a2:Int) (a3:Int):Option (List Int):=Q7.l0 k l1 a3 (([] :List Int)) a2
theorem Q7.mono_l: ∀ k,(∀ y0 y1 y2 y3,LeO (Q7.l0 k y0 y1 y2 y3) (Q7.l0 (k+1) y0 y1 y2 y3))∧(∀ y0 y1 y2 y3 y4 y5 y6 y7,LeO (Q7.l1 k y0 y1 y2 y3 y4 y5 y6 y7) (Q7.l1 (k+1) y0 y1 y2 y3 y4 y5 y6 y7))
 |0=>⟨fun _ _ _ _ r h=>by simp [Q7.l0] at h,fun _ _ _ _ _ _ _ _ r h=>by simp [Q7.l1] at h⟩
 |k+1=>by
  obtain ⟨ih0,ih1⟩:=Q7.mono_l k;refine ⟨?_,?_⟩
  all_goals
   intros
   first|unfold Q7.l0|unfold Q7.l1
   repeat' (with_reducible first|apply ih0|apply ih1|exact LeO.refl _|exact LeO.none _|refine LeO.ite ?_ ?_|refine LeO.bind ?_ (fun _=> ?_))
theorem Q7.mono: ∀ a0 a1 a2 a3 k,LeO (Q7.f k a0 a1 a2 a3) (Q7.f (k+1) a0 a1 a2 a3):=by
 intro a0 a1 a2 a3 k;obtain ⟨ih0,ih1⟩:=Q7.mono_l k;unfold Q7.f
 repeat' (with_reducible first|apply ih0|apply ih1|exact LeO.refl _|exact LeO.none _|refine LeO.ite ?_ ?_|refine LeO.bind ?_ (fun _=> ?_))
set_option maxHeartbeats 8000000 in
set_option maxRecDepth 100000 in
theorem Q7.calls (k:Nat) (A0_0:Option Addr) (c0_0:Nat) (l0_0:List Int) (A1:Option Addr) (c1:Nat) (l1:List Int) (a2:Int) (a3:Int) (r:List Int) (w:World) (hr0_0:Kd.C (Kd.int .i64) w A0_0 l0_0.length l0_0) (hc0_0:l0_0.length≤c0_0) (hr1:Kd.C (Kd.int .i64) w A1 l1.length l1) (hc1:l1.length≤c1) (h:Q7.f k l0_0 l1 a2 a3=some r):
 Calls Try.prog 96 #[.agg #[.slice A0_0 l0_0.length c0_0], .slice A1 l1.length c1, .int .i64 a2, .int .i64 a3] w fun e w'=> ∃ v0_:Value,e= .returned (v0_)∧Kd.R (Kd.int .i64) 3 w' w.heap.size (fun _=>True) v0_ r∧Below w.heap.size w w':=by
 have hu26:=Try.underlying26;have HR0_0:=Zk hr0_0;have HC0_0:=Zk hc0_0;clear hr0_0 hc0_0;have HR1:=Zk hr1;have HC1:=Zk hc1;clear hr1 hc1;have HB:=Zk (Below.refl w.heap.size w);have H:(Q7.l0 k l1 a3 (([] :List Int)) a2)=some r:=h;clear h;obtain ⟨y400,hy400⟩: ∃ y_:List Int,y_=(([] :List Int)):=⟨_,rfl⟩
 replace H:(Q7.l0 k l1 a3 y400 a2)=some r:=by first|(rw [hy400];with_reducible exact H)|(have H2_:=(Option.bind_some _ _).symm.trans H;rw [hy400];with_reducible exact H2_)|(have H2_:=(Option.bind_some _ _).symm.trans H;with_reducible exact H2_)|with_reducible exact H|(rw [hy400];exact H)|exact H
 have Ny400:=Zk hy400;clear hy400;have H':=Zk H;clear H;go_enter Try.func96,Try.ntmps96;go_wp2_with (first|(refine bE (N:=4) (cs:= #[.slice A0_0 l0_0.length c0_0]) (t:=26) ?_;intro gb399 hg w5 hbox hb;have BK399:=Zk (hbox);have GW399:=Zk ((by rw [hg];exact (Qh (uB HB)):w.heap.size≤gb399));have GE399:=GW399;replace HB:=Zk (Qc (uB HB) hb);clear hb hbox hg)|((with_reducible refine Qb2 (N:=14) rfl ?_);refine Kd.R_lit (Kd.int .i64) _ 3 ?hg (N:=14) ?hd (xs:=([] :List Int)) (inner:= []) (ok:=fun _=>True) (okp:=fun _=>True) ?hr ?hp (fun _ hk=>hk) trivial (Below.refl _ _) (Nat.le_refl _) (by simp) ?_;(case hd=>rfl);(case hg=>rfl);(case hr=>first|(go_simp;done)|(go_simp;rfl));(case hp=>exact (Reps.none _ _));intro v401 w6 ho7 hb hg_ hnew_;clear hg_ hnew_;(first|rw [←Ny400.out] at ho7|(simp only [Int.reduceToNat] at ho7;rw [←Ny400.out] at ho7));have HO402:=Zk (Kd.R_lower ho7 (Qh (vB HB)));replace BK399:=Zk (Qd (uK BK399) hb);replace HB:=Zk (Qc (vB HB) hb);clear hb ho7))
 go_loopg [9,10] k (fun kq v9 v10 w'=> ∃ (x9_1:List Int) (x10_1:Int),v10= .int .i64 x10_1∧Z0 (Q7.l0 kq l1 a3 x9_1 x10_1=some r)∧Z0 (kq≤k)∧Z0 (Kd.R (Kd.int .i64) 3 w' w.heap.size (fun _=>True) v9 x9_1)∧Z0 (w'.heap[gb399]? =some (.cells #[(.slice A0_0 l0_0.length c0_0)] 26 (0,0)))∧Z0 (Below w.heap.size w w'))
 case atStart=>exact ⟨(y400),(a2),(by first|rfl|(simp;done)|(simp [*];done)),H',⟨Nat.le_refl _⟩,⟨uR HO402⟩,⟨uK BK399⟩,⟨(vB HB)⟩⟩
 case round=>
  clear H'
  skip
  obtain ⟨x9_1,x10_1,rfl,HA,HK1,HO_9,BK399,HB⟩:=hrel;cases gk with
  |zero=>exact absurd HA.out (by simp [Q7.l0])
  |succ k1=>
   have H:=HA.out;clear HA;simp only [Q7.l0] at H
   by_cases c8:x10_1≤a3
   ·
    rw [if_pos c8] at H;have c8b0:=decide_eq_true c8;clear c8;have H':=Zk H;clear H;go_wp2
    go_loopg [11,23] k1 (fun kq v11 v23 w'=> ∃ (x11_2:Int) (x23_2:Int),v11= .int .i64 x11_2∧v23= .int .i64 x23_2∧Z0 (Q7.l1 kq l1 a3 x9_1 x10_1 x11_2 l1 (l1.length:Int) x23_2=some r)∧Z0 (kq≤k1)∧Z0 (Kd.R (Kd.int .i64) 3 w' w.heap.size (fun _=>True) u9 x9_1)∧Z0 (w'.heap[gb399]? =some (.cells #[(.slice A0_0 l0_0.length c0_0)] 26 (0,0)))∧Z0 (Below w.heap.size w w'))
    case atStart=>exact ⟨(0),(0),(by first|rfl|(simp;done)|(simp [*];done)),(by first|rfl|(simp;done)|(simp [*];done)),H',⟨Nat.le_refl _⟩,⟨uR HO_9⟩,⟨uK BK399⟩,⟨(vB HB)⟩⟩
    case round=>
     clear H'
     try clear c8b0
     obtain ⟨x11_2,x23_2,rfl,rfl,HA,HK2,HO_9,BK399,HB⟩:=hrel;cases gk with
     |zero=>exact absurd HA.out (by simp [Q7.l1])
     |succ k2=>
      have H:=HA.out;clear HA;simp only [Q7.l1] at H
      by_cases c9:x23_2<(l1.length:Int)
      ·
       rw [if_pos c9] at H;have c9b0:=decide_eq_true c9;clear c9
       by_cases c10:0≤x23_2
       ·
        rw [if_pos c10] at H;have c10b0:=decide_eq_true c10;clear c10
        by_cases c11:x23_2<(l1.length:Int)
        ·
         rw [if_pos c11] at H;have c11b0:=decide_eq_true c11;clear c11
         by_cases c12:(rd l1 x23_2)<x10_1
         ·
          rw [if_pos c12] at H;have c12b0:=decide_eq_true c12;clear c12;have c13b0:=eq_true (of_decide_eq_true (by first|(with_reducible assumption)|assumption):0≤x23_2);obtain ⟨ji14,hji14⟩: ∃ j_:Int,(shl .i64 1 x23_2)=j_:=⟨_,rfl⟩
          replace H:(Q7.l1 k2 l1 a3 x9_1 x10_1 (Go.bits .or .i64 x11_2 (ji14)) l1 (l1.length:Int) (wrap64 (x23_2+1)))=some r:=by first|(rw [hji14] at H;exact H)|(simp only [hji14] at H ⊢;exact H)
          have hji14_:(IntKind.i64.wrap (1*2 ^ min x23_2.toNat 64))=ji14:=hji14;have hji14z:x23_2≤64→(IntKind.i64.wrap (1*2 ^ x23_2.toNat))=ji14:=Qeb hji14;have hji14u:(IntKind.i64.wrap (2 ^ min x23_2.toNat 64))=ji14:=by have h_:=hji14_;rw [Int.one_mul] at h_;exact h_
          have hji14v:x23_2≤64→(IntKind.i64.wrap (2 ^ x23_2.toNat))=ji14:=fun hle_=>by have h_:=hji14z hle_;rw [Int.one_mul] at h_;exact h_
          have hji14y:(wrap64 (1*2 ^ min x23_2.toNat 64))=ji14:=(Qci _).symm.trans hji14_;have hji14x:x23_2≤64→(wrap64 (1*2 ^ x23_2.toNat))=ji14:=fun h_=>(Qci _).symm.trans (hji14z h_)
          have H':=Zk H;clear H;have p403:0≤(x23_2:Int):=of_decide_eq_true (by first|(with_reducible assumption)|assumption);have q403:x23_2<(l1.length:Int):=of_decide_eq_true (by first|(with_reducible assumption)|assumption);obtain ⟨ad403,e403,hx403_0⟩:=Kd.at_int HR1.out x23_2 p403 q403;cases e403;replace hx403_0:=(HB.out.cell (World.block_lt_of_cell? w _ hx403_0)).trans hx403_0;replace p403:=eq_true p403;replace q403:=eq_true q403;go_wp2;go_roundg k2
          case measure=>have:=HK1.out;have:=HK2.out;omega
          case rel=>exact ⟨(Go.bits .or .i64 x11_2 (ji14)),(wrap64 (x23_2+1)),(by first|rfl|(simp;done)|(simp only [←hji14] <;>(first|rfl|simp))|(simp [*];done)),(by first|rfl|(simp;done)|(simp [*];done)),H',⟨by have:=HK1.out;have:=HK2.out;omega⟩,⟨uR HO_9⟩,⟨uK BK399⟩,⟨(vB HB)⟩⟩
         ·
          rw [if_neg c12] at H;have c12b0:=decide_eq_false c12;clear c12;have H':=Zk H;clear H;have p403:0≤(x23_2:Int):=of_decide_eq_true (by first|(with_reducible assumption)|assumption);have q403:x23_2<(l1.length:Int):=of_decide_eq_true (by first|(with_reducible assumption)|assumption);obtain ⟨ad403,e403,hx403_0⟩:=Kd.at_int HR1.out x23_2 p403 q403;cases e403;replace hx403_0:=(HB.out.cell (World.block_lt_of_cell? w _ hx403_0)).trans hx403_0;replace p403:=eq_true p403;replace q403:=eq_true q403;go_wp2;go_roundg k2
          case measure=>have:=HK1.out;have:=HK2.out;omega
          case rel=>exact ⟨(x11_2),(wrap64 (x23_2+1)),(by first|rfl|(simp;done)|(simp [*];done)),(by first|rfl|(simp;done)|(simp [*];done)),H',⟨by have:=HK1.out;have:=HK2.out;omega⟩,⟨uR HO_9⟩,⟨uK BK399⟩,⟨(vB HB)⟩⟩
        ·
         rw [if_neg c11] at H;exact absurd H (by simp)
       ·
        rw [if_neg c10] at H;exact absurd H (by simp)
      ·
       rw [if_neg c9] at H;have c9b0:=decide_eq_false c9;clear c9
       by_cases c15:x9_1.length<17592186044416
       ·
        rw [if_pos c15] at H;have LMc15:=Zk c15;clear c15;obtain ⟨y404,hy404⟩: ∃ y_:List Int,y_=(x9_1++ [x11_2]):=⟨_,rfl⟩
        replace H:(Q7.l0 k2 l1 a3 y404 (wrap64 (x10_1+1)))=some r:=by first|(rw [hy404];with_reducible exact H)|(have H2_:=(Option.bind_some _ _).symm.trans H;rw [hy404];with_reducible exact H2_)|(have H2_:=(Option.bind_some _ _).symm.trans H;with_reducible exact H2_)|with_reducible exact H|(rw [hy404];exact H)|exact H
        have Ny404:=Zk hy404;clear hy404;have H':=Zk H;clear H;go_wp2_with (first|((with_reducible refine Qcl (b:= .append) (xs:= #[.tmp 36, .tmp 38]) rfl ?_);at_builtin;refine Kd.R_append (Kd.int .i64) (w0:=w) w.heap.size rfl (.tmp 36) (.tmp 38) 24 3 (.int .i64 0) 8 rfl Try.underlying24 Qed rfl (by decide) (by omega) u9 x9_1 x11_2 [.int .i64 x11_2] (fun _=>True) (fun _=>False) rfl rfl ?aP (fun _ hk=>hk.elim) ?aF ?aO ?aB ?aS ?aL ?_;(case aP=>exact rfl);(case aB=>exact (vB HB));(case aF=>exact (fun _ _=>trivial));(case aO=>exact (uR HO_9));(case aS=>exact (Qh (vB HB)));(case aL=>have:=LMc15.out;omega);intro v405 w16 ho hb hg hat;rw [←Ny404.out] at ho;replace BK399:=Zk (Qb8 (uK BK399) hg (Kd.R_ne HO_9.out BK399.out (by decide)));replace HB:=Zk (hb);have HO406:=Zk (ho);clear HO_9;clear ho hb hg hat));go_roundg k2
        case measure=>have:=HK1.out;have:=HK2.out;omega
        case rel=>exact ⟨(y404),(wrap64 (x10_1+1)),(by first|rfl|(simp;done)|(simp [*];done)),H',⟨by have:=HK1.out;have:=HK2.out;omega⟩,⟨uR HO406⟩,⟨uK BK399⟩,⟨(vB HB)⟩⟩
       ·
        rw [if_neg c15] at H;exact absurd H (by simp)
   ·
    rw [if_neg c8] at H;have c8b0:=decide_eq_false c8;clear c8;obtain rfl:=Option.some.inj H;go_wp2
    go_ret
    exact ⟨_,by first|rfl|(simp [Qe,Qf] <;>rfl)|(simp [*,Qe,Qf] <;>rfl),uR HO_9,(vB HB)⟩
def Qc4.f (k:Nat) (l0_0:List Int) (l1:List Int) (a2:Int):Option (List Int × Bool):=(Qcv.f k l0_0 l1 a2).bind fun t408=>(if t408=true then ((Q7.f k l0_0 l1 1 a2).bind fun t409=>(some (t409,true))) else (some (([] :List Int),false)))
theorem Qc4.mono: ∀ a0 a1 a2 k,LeO (Qc4.f k a0 a1 a2) (Qc4.f (k+1) a0 a1 a2):=by
 intro a0 a1 a2 k;unfold Qc4.f
 repeat' (with_reducible first|apply Q7.mono|apply Qcv.mono|exact LeO.refl _|exact LeO.none _|refine LeO.ite ?_ ?_|refine LeO.bind ?_ (fun _=> ?_))
set_option maxHeartbeats 8000000 in
set_option maxRecDepth 100000 in
theorem Qc4.calls (k:Nat) (A0_0:Option Addr) (c0_0:Nat) (l0_0:List Int) (A1:Option Addr) (c1:Nat) (l1:List Int) (a2:Int) (r1:List Int) (r2:Bool) (w:World) (hr0_0:Kd.C (Kd.int .i64) w A0_0 l0_0.length l0_0) (hc0_0:l0_0.length≤c0_0) (hr1:Kd.C (Kd.int .i64) w A1 l1.length l1) (hc1:l1.length≤c1) (h:Qc4.f k l0_0 l1 a2=some (r1,r2)):
 Calls Try.prog 37 #[.agg #[.slice A0_0 l0_0.length c0_0], .slice A1 l1.length c1, .int .i64 a2] w fun e w'=> ∃ v0_:Value,e= .returned (.tuple #[v0_, .bool r2])∧Kd.R (Kd.int .i64) 3 w' w.heap.size (fun _=>True) v0_ r1∧Below w.heap.size w w':=by
 have hu26:=Try.underlying26;have HR0_0:=Zk hr0_0;have HC0_0:=Zk hc0_0;clear hr0_0 hc0_0;have HR1:=Zk hr1;have HC1:=Zk hc1;clear hr1 hc1;have HB:=Zk (Below.refl w.heap.size w);have H:((Qcv.f k l0_0 l1 a2).bind fun t408=>(if t408=true then ((Q7.f k l0_0 l1 1 a2).bind fun t409=>(some (t409,true))) else (some (([] :List Int),false))))=some (r1,r2):=h;clear h;obtain ⟨t408,A4,H⟩:=bs H;(try dsimp only at H)
 by_cases c5:t408=true
 ·
  subst c5;rw [if_pos rfl] at H;obtain ⟨t409,A6,H⟩:=bs H;(try dsimp only at H)
  simp only [Option.some.injEq,Prod.mk.injEq] at H;obtain ⟨rfl,rfl⟩:=H;go_enter Try.func37,Try.ntmps37;go_wp2_with (first|(refine bE (N:=3) (cs:= #[.slice A0_0 l0_0.length c0_0]) (t:=26) ?_;intro gb407 hg w7 hbox hb;have BK407:=Zk (hbox);have GW407:=Zk ((by rw [hg];exact (Qh (uB HB)):w.heap.size≤gb407));have GE407:=GW407;replace HB:=Zk (Qc (uB HB) hb);clear hb hbox hg;have hcz8_0:=bC BK407;have hfz8_0:=Qg BK407.out 0)|(refine gA (some 11) Try.func62 #[.agg #[.slice A0_0 l0_0.length c0_0], .slice A1 l1.length c1, .int .i64 a2] ?_;(with_reducible refine (Qcv.calls k _ _ l0_0 _ _ l1 a2 true _ (uD HR0_0 HB) HC0_0.out (uD HR1 HB) HC1.out A4.out).mono ?_);rintro e w9 ⟨rfl,hb⟩;refine ⟨_,rfl,?_⟩;replace BK407:=Zk (Qd (uK BK407) hb);replace HB:=Zk (Qc (vB HB) hb);(try clear hb);have hcz10_0:=bC BK407;have hfz10_0:=Qg BK407.out 0)|(refine gA (some 16) Try.func96 #[.agg #[.slice A0_0 l0_0.length c0_0], .slice A1 l1.length c1, .int .i64 1, .int .i64 a2] ?_;(with_reducible refine (Q7.calls k _ _ l0_0 _ _ l1 1 a2 t409 _ (uD HR0_0 HB) HC0_0.out (uD HR1 HB) HC1.out A6.out).mono ?_);rintro e w11 ⟨v410,rfl,ho0,hb⟩;refine ⟨_,rfl,?_⟩;have HO411:=Zk (Kd.R_lower ho0 (Qh (vB HB)));replace BK407:=Zk (Qd (uK BK407) hb);replace HB:=Zk (Qc (vB HB) hb);(try clear hb ho0)))
  go_ret2
  exact ⟨_,by first|rfl|(simp [Qe,Qf] <;>rfl)|(simp [*,Qe,Qf] <;>rfl),uR HO411,(vB HB)⟩
 ·
  replace c5:=Bool.eq_false_iff.mpr c5;subst c5;rw [if_neg (show ¬ (false=true) by decide)] at H;simp only [Option.some.injEq,Prod.mk.injEq] at H;obtain ⟨rfl,rfl⟩:=H;go_enter Try.func37,Try.ntmps37;go_wp2_with (first|(refine bE (N:=3) (cs:= #[.slice A0_0 l0_0.length c0_0]) (t:=26) ?_;intro gb407 hg w12 hbox hb;have BK407:=Zk (hbox);have GW407:=Zk ((by rw [hg];exact (Qh (uB HB)):w.heap.size≤gb407));have GE407:=GW407;replace HB:=Zk (Qc (uB HB) hb);clear hb hbox hg;have hcz13_0:=bC BK407;have hfz13_0:=Qg BK407.out 0)|(refine gA (some 11) Try.func62 #[.agg #[.slice A0_0 l0_0.length c0_0], .slice A1 l1.length c1, .int .i64 a2] ?_;(with_reducible refine (Qcv.calls k _ _ l0_0 _ _ l1 a2 false _ (uD HR0_0 HB) HC0_0.out (uD HR1 HB) HC1.out A4.out).mono ?_);rintro e w14 ⟨rfl,hb⟩;refine ⟨_,rfl,?_⟩;replace BK407:=Zk (Qd (uK BK407) hb);replace HB:=Zk (Qc (vB HB) hb);(try clear hb)))
  go_ret2
  exact ⟨_,by first|rfl|(simp [Qe,Qf] <;>rfl)|(simp [*,Qe,Qf] <;>rfl),by first|exact Kd.R_nil _ _ _ _ _|exact Kd.N_nil _ _ _ _ _|exact Kd.V_nil _ _ _ _ _|exact Kd.Q_nil _ _ _ _ _|exact Kd.S_nil _ _ _ _ _,(vB HB)⟩
mutual
def Qx.l0:Nat→List Int→Int→Int→List Int→Option (Bool)
 |0,_,_,_,_=>none
 |k+1,x14,x15,x16,x413000=>if x16<x15 then (if 0≤x16 then (if x16<(x14.length:Int) then ((Qcn.f (rd x14 x16) 0 (wrap64 ((shl .i64 1 x16) - 1))).bind fun t415=>(if t415=true then (Qx.l1 k x16 (rd x14 x16) 0 x14 x15 x16 x413000) else (some false))) else (none)) else (none)) else (some true)
def Qx.l1:Nat→Int→Int→Int→List Int→Int→Int→List Int→Option (Bool)
 |0,_,_,_,_,_,_,_=>none
 |k+1,x4,x5,x6,x14,x15,x16,x413000=>if x6<x4 then (if 0≤x6 then (if (Int.tmod (shr .i64 x5 x6) 2)=1 then (if x6<(x413000.length:Int) then (if (Go.bits .andNot .i64 (rd x413000 x6) x5)=0 then (Qx.l1 k x4 x5 (wrap64 (x6+1)) x14 x15 x16 x413000) else (some false)) else (none)) else (Qx.l1 k x4 x5 (wrap64 (x6+1)) x14 x15 x16 x413000)) else (none)) else (Qx.l0 k x14 x15 (wrap64 (x16+1)) x413000)
end
def Qx.f (k:Nat) (l0_0:List Int):Option (Bool):=(Qcn.f (l0_0.length:Int) 1 10).bind fun t413=>(if t413=true then (Qx.l0 k l0_0 (l0_0.length:Int) 0 l0_0) else (some false))
theorem Qx.mono_l: ∀ k,(∀ y0 y1 y2 y3,LeO (Qx.l0 k y0 y1 y2 y3) (Qx.l0 (k+1) y0 y1 y2 y3))∧(∀ y0 y1 y2 y3 y4 y5 y6,LeO (Qx.l1 k y0 y1 y2 y3 y4 y5 y6) (Qx.l1 (k+1) y0 y1 y2 y3 y4 y5 y6))
 |0=>⟨fun _ _ _ _ r h=>by simp [Qx.l0] at h,fun _ _ _ _ _ _ _ r h=>by simp [Qx.l1] at h⟩
 |k+1=>by
  obtain ⟨ih0,ih1⟩:=Qx.mono_l k;refine ⟨?_,?_⟩
  all_goals
   intros
   first|unfold Qx.l0|unfold Qx.l1
   repeat' (with_reducible first|apply ih0|apply ih1|exact LeO.refl _|exact LeO.none _|refine LeO.ite ?_ ?_|refine LeO.bind ?_ (fun _=> ?_))
theorem Qx.mono: ∀ a0 k,LeO (Qx.f k a0) (Qx.f (k+1) a0):=by
 intro a0 k;obtain ⟨ih0,ih1⟩:=Qx.mono_l k;unfold Qx.f
 repeat' (with_reducible first|apply ih0|apply ih1|exact LeO.refl _|exact LeO.none _|refine LeO.ite ?_ ?_|refine LeO.bind ?_ (fun _=> ?_))
set_option maxHeartbeats 8000000 in
set_option maxRecDepth 100000 in
theorem Qx.calls (k:Nat) (A0_0:Option Addr) (c0_0:Nat) (l0_0:List Int) (r:Bool) (w:World) (hr0_0:Kd.C (Kd.int .i64) w A0_0 l0_0.length l0_0) (hc0_0:l0_0.length≤c0_0) (h:Qx.f k l0_0=some r):
 Calls Try.prog 88 #[.agg #[.slice A0_0 l0_0.length c0_0]] w fun e w'=>e= .returned (.bool r)∧Below w.heap.size w w':=by
 have hu26:=Try.underlying26;have HR0_0:=Zk hr0_0;have HC0_0:=Zk hc0_0;clear hr0_0 hc0_0;have HB:=Zk (Below.refl w.heap.size w);have H:((Qcn.f (l0_0.length:Int) 1 10).bind fun t413=>(if t413=true then (Qx.l0 k l0_0 (l0_0.length:Int) 0 l0_0) else (some false)))=some r:=h;clear h;obtain ⟨t413,A2,H⟩:=bs H;(try dsimp only at H)
 by_cases c3:t413=true
 ·
  subst c3;rw [if_pos rfl] at H;have H':=Zk H;clear H;go_enter Try.func88,Try.ntmps88;go_wp2_with (first|(refine bE (N:=1) (cs:= #[.slice A0_0 l0_0.length c0_0]) (t:=26) ?_;intro gb412 hg w4 hbox hb;have BK412:=Zk (hbox);have GW412:=Zk ((by rw [hg];exact (Qh (uB HB)):w.heap.size≤gb412));have GE412:=GW412;replace HB:=Zk (Qc (uB HB) hb);clear hb hbox hg;have hcz5_0:=bC BK412;have hfz5_0:=Qg BK412.out 0)|(refine gA (some 11) Try.func95 #[.int .i64 (l0_0.length:Int), .int .i64 1, .int .i64 10] ?_;(with_reducible refine (Qcn.calls (l0_0.length:Int) 1 10 true _ A2.out).mono ?_);rintro e w' ⟨rfl,⟨nd,rfl⟩⟩;refine ⟨_,rfl,?_⟩))
  go_loopg [16] k (fun kq v16 w'=> ∃ (x16_1:Int),v16= .int .i64 x16_1∧Z0 (Qx.l0 kq l0_0 (l0_0.length:Int) x16_1 l0_0=some r)∧Z0 (kq≤k)∧Z0 (w'.heap[gb412]? =some (.cells #[(.slice A0_0 l0_0.length c0_0)] 26 (0,0)))∧Z0 (Below w.heap.size w w'))
  case atStart=>exact ⟨(0),(by first|rfl|(simp;done)|(simp [*];done)),H',⟨Nat.le_refl _⟩,⟨uK BK412⟩,⟨(vB HB)⟩⟩
  case round=>
   clear H'
   try clear hcz5_0 hfz5_0
   obtain ⟨x16_1,rfl,HA,HK1,BK412,HB⟩:=hrel;cases gk with
   |zero=>exact absurd HA.out (by simp [Qx.l0])
   |succ k1=>
    have H:=HA.out;clear HA;simp only [Qx.l0] at H
    by_cases c6:x16_1<(l0_0.length:Int)
    ·
     rw [if_pos c6] at H;have c6b0:=decide_eq_true c6;clear c6
     by_cases c7:0≤x16_1
     ·
      rw [if_pos c7] at H;have c7b0:=decide_eq_true c7;clear c7
      by_cases c8:x16_1<(l0_0.length:Int)
      ·
       rw [if_pos c8] at H;have c8b0:=decide_eq_true c8;clear c8;have c9b0:=eq_true (of_decide_eq_true (by first|(with_reducible assumption)|assumption):0≤x16_1);obtain ⟨ji10,hji10⟩: ∃ j_:Int,(shl .i64 1 x16_1)=j_:=⟨_,rfl⟩
       replace H:((Qcn.f (rd l0_0 x16_1) 0 (wrap64 ((ji10) - 1))).bind fun t415=>(if t415=true then (Qx.l1 k1 x16_1 (rd l0_0 x16_1) 0 l0_0 (l0_0.length:Int) x16_1 l0_0) else (some false)))=some r:=by first|(rw [hji10] at H;exact H)|(simp only [hji10] at H ⊢;exact H)
       have hji10_:(IntKind.i64.wrap (1*2 ^ min x16_1.toNat 64))=ji10:=hji10;have hji10z:x16_1≤64→(IntKind.i64.wrap (1*2 ^ x16_1.toNat))=ji10:=Qeb hji10;have hji10u:(IntKind.i64.wrap (2 ^ min x16_1.toNat 64))=ji10:=by have h_:=hji10_;rw [Int.one_mul] at h_;exact h_
       have hji10v:x16_1≤64→(IntKind.i64.wrap (2 ^ x16_1.toNat))=ji10:=fun hle_=>by have h_:=hji10z hle_;rw [Int.one_mul] at h_;exact h_
       have hji10y:(wrap64 (1*2 ^ min x16_1.toNat 64))=ji10:=(Qci _).symm.trans hji10_;have hji10x:x16_1≤64→(wrap64 (1*2 ^ x16_1.toNat))=ji10:=fun h_=>(Qci _).symm.trans (hji10z h_)
       obtain ⟨t415,A11,H⟩:=bs H;(try dsimp only at H)
       by_cases c12:t415=true
       ·
        subst c12;rw [if_pos rfl] at H;have H':=Zk H;clear H;have p414:0≤(x16_1:Int):=of_decide_eq_true (by first|(with_reducible assumption)|assumption);have q414:x16_1<(l0_0.length:Int):=of_decide_eq_true (by first|(with_reducible assumption)|assumption);obtain ⟨ad414,e414,hx414_0⟩:=Kd.at_int HR0_0.out x16_1 p414 q414;cases e414;replace hx414_0:=(HB.out.cell (World.block_lt_of_cell? w _ hx414_0)).trans hx414_0;replace p414:=eq_true p414;replace q414:=eq_true q414;go_wp2_with (first|((with_reducible refine Qdx (f:=95) rfl ?_);refine Qe3 (some 25) rfl rfl Try.func95 (by kernel_rfl) rfl #[.int .i64 (rd l0_0 x16_1), .int .i64 0, .int .i64 (wrap64 ((ji10) - 1))] rfl (by (try simp only [List.map_toArray,List.map_cons,List.map_nil]);first|done|(simp only [hji10];rfl)|rfl|(simp only [List.length_drop,List.length_take];rfl)) ?_;(with_reducible refine (Qcn.calls (rd l0_0 x16_1) 0 (wrap64 ((ji10) - 1)) true _ A11.out).mono ?_);rintro e w' ⟨rfl,⟨nd,rfl⟩⟩;refine ⟨_,rfl,?_⟩))
        go_loopg [6] k1 (fun kq v6 w'=> ∃ (x6_2:Int),v6= .int .i64 x6_2∧Z0 (Qx.l1 kq x16_1 (rd l0_0 x16_1) x6_2 l0_0 (l0_0.length:Int) x16_1 l0_0=some r)∧Z0 (kq≤k1)∧Z0 (w'.heap[gb412]? =some (.cells #[(.slice (some ad414) l0_0.length c0_0)] 26 (0,0)))∧Z0 (Below w.heap.size w w'))
        case atStart=>exact ⟨(0),(by first|rfl|(simp;done)|(simp [*];done)),H',⟨Nat.le_refl _⟩,⟨uK BK412⟩,⟨(vB HB)⟩⟩
        case round=>
         clear H'
         try clear c6b0 c7b0 c8b0 c9b0 hx414_0 p414 q414
         obtain ⟨x6_2,rfl,HA,HK2,BK412,HB⟩:=hrel;cases gk with
         |zero=>exact absurd HA.out (by simp [Qx.l1])
         |succ k2=>
          have H:=HA.out;clear HA;simp only [Qx.l1] at H
          by_cases c13:x6_2<x16_1
          ·
           rw [if_pos c13] at H;have c13b0:=decide_eq_true c13;clear c13
           by_cases c14:0≤x6_2
           ·
            rw [if_pos c14] at H;have c14b0:=eq_true c14;have c14b1:=decide_eq_true c14;clear c14;obtain ⟨ji15,hji15⟩: ∃ j_:Int,(shr .i64 (rd l0_0 x16_1) x6_2)=j_:=⟨_,rfl⟩
            replace H:(if (Int.tmod (ji15) 2)=1 then (if x6_2<(l0_0.length:Int) then (if (Go.bits .andNot .i64 (rd l0_0 x6_2) (rd l0_0 x16_1))=0 then (Qx.l1 k2 x16_1 (rd l0_0 x16_1) (wrap64 (x6_2+1)) l0_0 (l0_0.length:Int) x16_1 l0_0) else (some false)) else (none)) else (Qx.l1 k2 x16_1 (rd l0_0 x16_1) (wrap64 (x6_2+1)) l0_0 (l0_0.length:Int) x16_1 l0_0))=some r:=by first|(rw [hji15] at H;exact H)|(simp only [hji15] at H ⊢;exact H)
            have hji15_:((rd l0_0 x16_1) / 2 ^ min x6_2.toNat 64)=ji15:=hji15;have hji15z:x6_2≤64→((rd l0_0 x16_1) / 2 ^ x6_2.toNat)=ji15:=Qir hji15
            by_cases c16:(Int.tmod (ji15) 2)=1
            ·
             rw [if_pos c16] at H;have c16b0:((Int.tmod (ji15) 2)==1)=true:=beq_iff_eq.mpr c16;have c16b1:((Int.tmod (ji15) 2) !=1)=false:=bne_eq_false_iff_eq.mpr c16;clear c16
             by_cases c17:x6_2<(l0_0.length:Int)
             ·
              rw [if_pos c17] at H;have c17b0:=decide_eq_true c17;clear c17
              by_cases c18:(Go.bits .andNot .i64 (rd l0_0 x6_2) (rd l0_0 x16_1))=0
              ·
               rw [if_pos c18] at H;have c18b0:((Go.bits .andNot .i64 (rd l0_0 x6_2) (rd l0_0 x16_1))==0)=true:=beq_iff_eq.mpr c18;have c18b1:((Go.bits .andNot .i64 (rd l0_0 x6_2) (rd l0_0 x16_1)) !=0)=false:=bne_eq_false_iff_eq.mpr c18;clear c18;have H':=Zk H;clear H;have hcz19_0:=bC BK412;have hfz19_0:=Qg BK412.out 0;have p416:0≤(x6_2:Int):=of_decide_eq_true (by first|(with_reducible assumption)|assumption);have q416:x6_2<(l0_0.length:Int):=of_decide_eq_true (by first|(with_reducible assumption)|assumption);obtain ⟨ad416,e416,hx416_0⟩:=Kd.at_int HR0_0.out x6_2 p416 q416;obtain rfl:ad414=ad416:=(by injection e416)
               replace hx416_0:=(HB.out.cell (World.block_lt_of_cell? w _ hx416_0)).trans hx416_0;replace p416:=eq_true p416;replace q416:=eq_true q416;go_wp2;go_roundg k2
               case measure=>have:=HK1.out;have:=HK2.out;omega
               case rel=>exact ⟨(wrap64 (x6_2+1)),(by first|rfl|(simp;done)|(simp [*];done)),H',⟨by have:=HK1.out;have:=HK2.out;omega⟩,⟨uK BK412⟩,⟨(vB HB)⟩⟩
              ·
               rw [if_neg c18] at H;have c18b0:((Go.bits .andNot .i64 (rd l0_0 x6_2) (rd l0_0 x16_1))==0)=false:=beq_eq_false_iff_ne.mpr c18;have c18b1:((Go.bits .andNot .i64 (rd l0_0 x6_2) (rd l0_0 x16_1)) !=0)=true:=bne_iff_ne.mpr c18;obtain rfl:=Option.some.inj H;have hcz20_0:=bC BK412;have hfz20_0:=Qg BK412.out 0;have p416:0≤(x6_2:Int):=of_decide_eq_true (by first|(with_reducible assumption)|assumption);have q416:x6_2<(l0_0.length:Int):=of_decide_eq_true (by first|(with_reducible assumption)|assumption);obtain ⟨ad416,e416,hx416_0⟩:=Kd.at_int HR0_0.out x6_2 p416 q416;obtain rfl:ad414=ad416:=(by injection e416)
               replace hx416_0:=(HB.out.cell (World.block_lt_of_cell? w _ hx416_0)).trans hx416_0;replace p416:=eq_true p416;replace q416:=eq_true q416;go_wp2
               go_ret
               exact ⟨by first|rfl|(simp [Qe,Qf] <;>rfl)|(simp only [←hji10,←hji15];first|rfl|(simp [Qe,Qf] <;>rfl))|(simp [*,Qe,Qf] <;>rfl),(vB HB)⟩
             ·
              rw [if_neg c17] at H;exact absurd H (by simp)
            ·
             rw [if_neg c16] at H;have c16b0:((Int.tmod (ji15) 2)==1)=false:=beq_eq_false_iff_ne.mpr c16;have c16b1:((Int.tmod (ji15) 2) !=1)=true:=bne_iff_ne.mpr c16;have H':=Zk H;clear H;go_wp2;go_roundg k2
             case measure=>have:=HK1.out;have:=HK2.out;omega
             case rel=>exact ⟨(wrap64 (x6_2+1)),(by first|rfl|(simp;done)|(simp [*];done)),H',⟨by have:=HK1.out;have:=HK2.out;omega⟩,⟨uK BK412⟩,⟨(vB HB)⟩⟩
           ·
            rw [if_neg c14] at H;exact absurd H (by simp)
          ·
           rw [if_neg c13] at H;have c13b0:=decide_eq_false c13;clear c13;have H':=Zk H;clear H;go_wp2;go_roundg k2
           case measure=>have:=HK1.out;have:=HK2.out;omega
           case rel=>exact ⟨(wrap64 (x16_1+1)),(by first|rfl|(simp;done)|(simp [*];done)),H',⟨by have:=HK1.out;have:=HK2.out;omega⟩,⟨uK BK412⟩,⟨(vB HB)⟩⟩
       ·
        replace c12:=Bool.eq_false_iff.mpr c12;subst c12;rw [if_neg (show ¬ (false=true) by decide)] at H;obtain rfl:=Option.some.inj H;have p414:0≤(x16_1:Int):=of_decide_eq_true (by first|(with_reducible assumption)|assumption);have q414:x16_1<(l0_0.length:Int):=of_decide_eq_true (by first|(with_reducible assumption)|assumption);obtain ⟨ad414,e414,hx414_0⟩:=Kd.at_int HR0_0.out x16_1 p414 q414;cases e414;replace hx414_0:=(HB.out.cell (World.block_lt_of_cell? w _ hx414_0)).trans hx414_0;replace p414:=eq_true p414;replace q414:=eq_true q414;go_wp2_with (first|((with_reducible refine Qdx (f:=95) rfl ?_);refine Qe3 (some 25) rfl rfl Try.func95 (by kernel_rfl) rfl #[.int .i64 (rd l0_0 x16_1), .int .i64 0, .int .i64 (wrap64 ((ji10) - 1))] rfl (by (try simp only [List.map_toArray,List.map_cons,List.map_nil]);first|done|(simp only [hji10];rfl)|rfl|(simp only [List.length_drop,List.length_take];rfl)) ?_;(with_reducible refine (Qcn.calls (rd l0_0 x16_1) 0 (wrap64 ((ji10) - 1)) false _ A11.out).mono ?_);rintro e w' ⟨rfl,⟨nd,rfl⟩⟩;refine ⟨_,rfl,?_⟩))
        go_ret
        exact ⟨by first|rfl|(simp [Qe,Qf] <;>rfl)|(simp only [←hji10];first|rfl|(simp [Qe,Qf] <;>rfl))|(simp [*,Qe,Qf] <;>rfl),(vB HB)⟩
      ·
       rw [if_neg c8] at H;exact absurd H (by simp)
     ·
      rw [if_neg c7] at H;exact absurd H (by simp)
    ·
     rw [if_neg c6] at H;have c6b0:=decide_eq_false c6;clear c6;obtain rfl:=Option.some.inj H;go_wp2
     go_ret
     exact ⟨by first|rfl|(simp [Qe,Qf] <;>rfl)|(simp [*,Qe,Qf] <;>rfl),(vB HB)⟩
 ·
  replace c3:=Bool.eq_false_iff.mpr c3;subst c3;rw [if_neg (show ¬ (false=true) by decide)] at H;obtain rfl:=Option.some.inj H;go_enter Try.func88,Try.ntmps88;go_wp2_with (first|(refine bE (N:=1) (cs:= #[.slice A0_0 l0_0.length c0_0]) (t:=26) ?_;intro gb412 hg w21 hbox hb;have BK412:=Zk (hbox);have GW412:=Zk ((by rw [hg];exact (Qh (uB HB)):w.heap.size≤gb412));have GE412:=GW412;replace HB:=Zk (Qc (uB HB) hb);clear hb hbox hg;have hcz22_0:=bC BK412;have hfz22_0:=Qg BK412.out 0)|(refine gA (some 11) Try.func95 #[.int .i64 (l0_0.length:Int), .int .i64 1, .int .i64 10] ?_;(with_reducible refine (Qcn.calls (l0_0.length:Int) 1 10 false _ A2.out).mono ?_);rintro e w' ⟨rfl,⟨nd,rfl⟩⟩;refine ⟨_,rfl,?_⟩))
  go_ret
  exact ⟨by first|rfl|(simp [Qe,Qf] <;>rfl)|(simp [*,Qe,Qf] <;>rfl),(vB HB)⟩
def Qdj.f (a0:Int):Option (Bool):=(Qcn.f a0 0 20).bind fun t417=>(some t417)
set_option maxHeartbeats 8000000 in
set_option maxRecDepth 100000 in
theorem Qdj.calls (a0:Int) (r:Bool) (w:World) (h:Qdj.f a0=some r):
 Calls Try.prog 89 #[.int .i64 a0] w fun e w'=>e= .returned (.bool r)∧Drawn0 w w':=by
 have H:((Qcn.f a0 0 20).bind fun t417=>(some t417))=some r:=h;clear h;obtain ⟨t417,A2,H⟩:=bs H;(try dsimp only at H)
 obtain rfl:=Option.some.inj H;go_enter Try.func89,Try.ntmps89;go_wp2_with (first|(refine gA (some 4) Try.func95 #[.int .i64 a0, .int .i64 0, .int .i64 20] ?_;(with_reducible refine (Qcn.calls a0 0 20 t417 _ A2.out).mono ?_);rintro e w' ⟨rfl,⟨nd,rfl⟩⟩;refine ⟨_,rfl,?_⟩))
 go_ret
 exact ⟨by first|rfl|(simp;done)|(simp [*];done),by repeat (first|exact Drawn0.refl _|apply Drawn0.step)⟩
def Qcm.l0:Nat→Int→Int→List Int→Int→Int→Option (Bool)
 |0,_,_,_,_,_=>none
 |k+1,x1,x2,x9,x10,x11=>if x11<x10 then (if 0≤x11 then (if x11<(x9.length:Int) then ((Qcn.f (rd x9 x11) x1 x2).bind fun t419=>(if t419=true then (Qcm.l0 k x1 x2 x9 x10 (wrap64 (x11+1))) else (some false))) else (none)) else (none)) else (some true)
def Qcm.f (k:Nat) (l0:List Int) (a1:Int) (a2:Int):Option (Bool):=Qcm.l0 k a1 a2 l0 (l0.length:Int) 0
theorem Qcm.mono_l: ∀ k,(∀ y0 y1 y2 y3 y4,LeO (Qcm.l0 k y0 y1 y2 y3 y4) (Qcm.l0 (k+1) y0 y1 y2 y3 y4))
 |0=>fun _ _ _ _ _ r h=>by simp [Qcm.l0] at h
 |k+1=>by
  have ih0:=Qcm.mono_l k
  ·
   intro y0 y1 y2 y3 y4;unfold Qcm.l0
   repeat' first
   |(with_reducible exact ih0 _ _ _ _ _)
   |(with_reducible exact LeO.refl _)
   |(with_reducible exact LeO.none _)
   |(with_reducible refine LeO.ite ?_ ?_)
   |(with_reducible refine LeO.bind ?_ (fun _=> ?_))
   |exact ih0 _ _ _ _ _
   |exact LeO.none _
   |refine LeO.ite ?_ ?_
   |refine LeO.bind ?_ (fun _=> ?_)
theorem Qcm.mono: ∀ a0 a1 a2 k,LeO (Qcm.f k a0 a1 a2) (Qcm.f (k+1) a0 a1 a2):=by
 intro a0 a1 a2 k;have ih0:=Qcm.mono_l k;unfold Qcm.f
 repeat' (with_reducible first|apply ih0|exact LeO.refl _|exact LeO.none _|refine LeO.ite ?_ ?_|refine LeO.bind ?_ (fun _=> ?_))
set_option maxHeartbeats 8000000 in
set_option maxRecDepth 100000 in
theorem Qcm.calls (k:Nat) (A0:Option Addr) (c0:Nat) (l0:List Int) (a1:Int) (a2:Int) (r:Bool) (w:World) (hr0:Kd.C (Kd.int .i64) w A0 l0.length l0) (hc0:l0.length≤c0) (h:Qcm.f k l0 a1 a2=some r):
 Calls Try.prog 121 #[.slice A0 l0.length c0, .int .i64 a1, .int .i64 a2] w fun e w'=>e= .returned (.bool r)∧Drawn0 w w':=by
 have HR0:=Zk hr0;have HC0:=Zk hc0;clear hr0 hc0;have H:(Qcm.l0 k a1 a2 l0 (l0.length:Int) 0)=some r:=h;clear h;have H':=Zk H;clear H;go_enter Try.func121,Try.ntmps121;go_wp2
 go_loopg [11] k (fun kq v11 w'=> ∃ (x11_1:Int),v11= .int .i64 x11_1∧Z0 (Qcm.l0 kq a1 a2 l0 (l0.length:Int) x11_1=some r)∧Z0 (kq≤k)∧Drawn0 w w')
 case atStart=>exact ⟨(0),(by first|rfl|(simp;done)|(simp [*];done)),H',⟨Nat.le_refl _⟩,by repeat (first|exact Drawn0.refl _|apply Drawn0.step)⟩
 case round=>
  clear H'
  skip
  obtain ⟨x11_1,rfl,HA,HK1,⟨m1,rfl⟩⟩:=hrel;cases gk with
  |zero=>exact absurd HA.out (by simp [Qcm.l0])
  |succ k1=>
   have H:=HA.out;clear HA;simp only [Qcm.l0] at H
   by_cases c4:x11_1<(l0.length:Int)
   ·
    rw [if_pos c4] at H;have c4b0:=decide_eq_true c4;clear c4
    by_cases c5:0≤x11_1
    ·
     rw [if_pos c5] at H;have c5b0:=decide_eq_true c5;clear c5
     by_cases c6:x11_1<(l0.length:Int)
     ·
      rw [if_pos c6] at H;have c6b0:=decide_eq_true c6;clear c6;obtain ⟨t419,A7,H⟩:=bs H;(try dsimp only at H)
      by_cases c8:t419=true
      ·
       subst c8;rw [if_pos rfl] at H;have H':=Zk H;clear H;have p418:0≤(x11_1:Int):=of_decide_eq_true (by first|(with_reducible assumption)|assumption);have q418:x11_1<(l0.length:Int):=of_decide_eq_true (by first|(with_reducible assumption)|assumption);obtain ⟨ad418,e418,hx418_0⟩:=Kd.at_int HR0.out x11_1 p418 q418;cases e418;replace p418:=eq_true p418;replace q418:=eq_true q418;go_wp2_with (first|(refine gA (some 18) Try.func95 #[.int .i64 (rd l0 x11_1), .int .i64 a1, .int .i64 a2] ?_;(with_reducible refine (Qcn.calls (rd l0 x11_1) a1 a2 true _ A7.out).mono ?_);rintro e w' ⟨rfl,⟨nd,rfl⟩⟩;refine ⟨_,rfl,?_⟩));go_roundg k1
       case measure=>have:=HK1.out;omega
       case rel=>exact ⟨(wrap64 (x11_1+1)),(by first|rfl|(simp;done)|(simp [*];done)),H',⟨by have:=HK1.out;omega⟩,by repeat (first|exact Drawn0.refl _|apply Drawn0.step)⟩
      ·
       replace c8:=Bool.eq_false_iff.mpr c8;subst c8;rw [if_neg (show ¬ (false=true) by decide)] at H;obtain rfl:=Option.some.inj H;have p418:0≤(x11_1:Int):=of_decide_eq_true (by first|(with_reducible assumption)|assumption);have q418:x11_1<(l0.length:Int):=of_decide_eq_true (by first|(with_reducible assumption)|assumption);obtain ⟨ad418,e418,hx418_0⟩:=Kd.at_int HR0.out x11_1 p418 q418;cases e418;replace p418:=eq_true p418;replace q418:=eq_true q418;go_wp2_with (first|(refine gA (some 18) Try.func95 #[.int .i64 (rd l0 x11_1), .int .i64 a1, .int .i64 a2] ?_;(with_reducible refine (Qcn.calls (rd l0 x11_1) a1 a2 false _ A7.out).mono ?_);rintro e w' ⟨rfl,⟨nd,rfl⟩⟩;refine ⟨_,rfl,?_⟩))
       go_ret
       exact ⟨by first|rfl|(simp;done)|(simp [*];done),by repeat (first|exact Drawn0.refl _|apply Drawn0.step)⟩
     ·
      rw [if_neg c6] at H;exact absurd H (by simp)
    ·
     rw [if_neg c5] at H;exact absurd H (by simp)
   ·
    rw [if_neg c4] at H;have c4b0:=decide_eq_false c4;clear c4;obtain rfl:=Option.some.inj H;go_wp2
    go_ret
    exact ⟨by first|rfl|(simp;done)|(simp [*];done),by repeat (first|exact Drawn0.refl _|apply Drawn0.step)⟩
mutual
def Qbw.l0:Nat→List Int→List Int→Int→Int→Option (Bool)
 |0,_,_,_,_=>none
 |k+1,x1,x15,x16,x17=>if x17<x16 then (if 0≤x17 then (if x17<(x15.length:Int) then (Qbw.l1 k x1 x17 (rd x15 x17) 0 x15 x16 x17) else (none)) else (none)) else (some true)
def Qbw.l1:Nat→List Int→Int→Int→Int→List Int→Int→Int→Option (Bool)
 |0,_,_,_,_,_,_,_=>none
 |k+1,x1,x7,x8,x9,x15,x16,x17=>if x9<x7 then ((Qch.f x8 x9).bind fun t423=>(if t423=true then (if 0≤x9 then (if x9<(x1.length:Int) then (if 0≤x7 then (if x7<(x1.length:Int) then (if (rd x1 x9)>(rd x1 x7) then (some false) else (Qbw.l1 k x1 x7 x8 (wrap64 (x9+1)) x15 x16 x17)) else (none)) else (none)) else (none)) else (none)) else (Qbw.l1 k x1 x7 x8 (wrap64 (x9+1)) x15 x16 x17))) else (Qbw.l0 k x1 x15 x16 (wrap64 (x17+1)))
end
def Qbw.f (k:Nat) (l0_0:List Int) (l1:List Int) (a2:Int):Option (Bool):=(Qcm.f k l1 0 a2).bind fun t421=>(if t421=true then (Qbw.l0 k l1 l0_0 (l0_0.length:Int) 0) else (some false))
theorem Qbw.mono_l: ∀ k,(∀ y0 y1 y2 y3,LeO (Qbw.l0 k y0 y1 y2 y3) (Qbw.l0 (k+1) y0 y1 y2 y3))∧(∀ y0 y1 y2 y3 y4 y5 y6,LeO (Qbw.l1 k y0 y1 y2 y3 y4 y5 y6) (Qbw.l1 (k+1) y0 y1 y2 y3 y4 y5 y6))
 |0=>⟨fun _ _ _ _ r h=>by simp [Qbw.l0] at h,fun _ _ _ _ _ _ _ r h=>by simp [Qbw.l1] at h⟩
 |k+1=>by
  obtain ⟨ih0,ih1⟩:=Qbw.mono_l k;refine ⟨?_,?_⟩
  all_goals
   intros
   first|unfold Qbw.l0|unfold Qbw.l1
   repeat' (with_reducible first|apply ih0|apply ih1|apply Qcm.mono|exact LeO.refl _|exact LeO.none _|refine LeO.ite ?_ ?_|refine LeO.bind ?_ (fun _=> ?_))
theorem Qbw.mono: ∀ a0 a1 a2 k,LeO (Qbw.f k a0 a1 a2) (Qbw.f (k+1) a0 a1 a2):=by
 intro a0 a1 a2 k;obtain ⟨ih0,ih1⟩:=Qbw.mono_l k;unfold Qbw.f
 repeat' (with_reducible first|apply ih0|apply ih1|apply Qcm.mono|exact LeO.refl _|exact LeO.none _|refine LeO.ite ?_ ?_|refine LeO.bind ?_ (fun _=> ?_))
set_option maxHeartbeats 8000000 in
set_option maxRecDepth 100000 in
theorem Qbw.calls (k:Nat) (A0_0:Option Addr) (c0_0:Nat) (l0_0:List Int) (A1:Option Addr) (c1:Nat) (l1:List Int) (a2:Int) (r:Bool) (w:World) (hr0_0:Kd.C (Kd.int .i64) w A0_0 l0_0.length l0_0) (hc0_0:l0_0.length≤c0_0) (hr1:Kd.C (Kd.int .i64) w A1 l1.length l1) (hc1:l1.length≤c1) (h:Qbw.f k l0_0 l1 a2=some r):
 Calls Try.prog 90 #[.agg #[.slice A0_0 l0_0.length c0_0], .slice A1 l1.length c1, .int .i64 a2] w fun e w'=>e= .returned (.bool r)∧Below w.heap.size w w':=by
 have hu26:=Try.underlying26;have HR0_0:=Zk hr0_0;have HC0_0:=Zk hc0_0;clear hr0_0 hc0_0;have HR1:=Zk hr1;have HC1:=Zk hc1;clear hr1 hc1;have HB:=Zk (Below.refl w.heap.size w);have H:((Qcm.f k l1 0 a2).bind fun t421=>(if t421=true then (Qbw.l0 k l1 l0_0 (l0_0.length:Int) 0) else (some false)))=some r:=h;clear h;obtain ⟨t421,A4,H⟩:=bs H;(try dsimp only at H)
 by_cases c5:t421=true
 ·
  subst c5;rw [if_pos rfl] at H;have H':=Zk H;clear H;go_enter Try.func90,Try.ntmps90;go_wp2_with (first|(refine bE (N:=3) (cs:= #[.slice A0_0 l0_0.length c0_0]) (t:=26) ?_;intro gb420 hg w6 hbox hb;have BK420:=Zk (hbox);have GW420:=Zk ((by rw [hg];exact (Qh (uB HB)):w.heap.size≤gb420));have GE420:=GW420;replace HB:=Zk (Qc (uB HB) hb);clear hb hbox hg)|(go_at_call 121;(with_reducible refine (Qcm.calls k _ _ l1 0 a2 true _ (uD HR1 HB) HC1.out A4.out).mono ?_);rintro e w' ⟨rfl,⟨nd,rfl⟩⟩;(try first|exact ⟨rfl,_,World.drewN_drewN _ _ _⟩|exact ⟨rfl,_,Eq.trans (World.drewN_drewN _ _ _) (congrArg (World.drewN _) (Nat.add_assoc _ _ _))⟩);have hcz7_0:=bC BK420;have hfz7_0:=Qg BK420.out 0))
  repeat (go_quiet (first|(refine bE (N:=3) (cs:= #[.slice A0_0 l0_0.length c0_0]) (t:=26) ?_;intro gb420 hg w6 hbox hb;have BK420:=Zk (hbox);have GW420:=Zk ((by rw [hg];exact (Qh (uB HB)):w.heap.size≤gb420));have GE420:=GW420;replace HB:=Zk (Qc (uB HB) hb);clear hb hbox hg)|(go_at_call 121;(with_reducible refine (Qcm.calls k _ _ l1 0 a2 true _ (uD HR1 HB) HC1.out A4.out).mono ?_);rintro e w' ⟨rfl,⟨nd,rfl⟩⟩;(try first|exact ⟨rfl,_,World.drewN_drewN _ _ _⟩|exact ⟨rfl,_,Eq.trans (World.drewN_drewN _ _ _) (congrArg (World.drewN _) (Nat.add_assoc _ _ _))⟩);have hcz7_0:=bC BK420;have hfz7_0:=Qg BK420.out 0));try go_wp2_with (first|(refine bE (N:=3) (cs:= #[.slice A0_0 l0_0.length c0_0]) (t:=26) ?_;intro gb420 hg w6 hbox hb;have BK420:=Zk (hbox);have GW420:=Zk ((by rw [hg];exact (Qh (uB HB)):w.heap.size≤gb420));have GE420:=GW420;replace HB:=Zk (Qc (uB HB) hb);clear hb hbox hg)|(go_at_call 121;(with_reducible refine (Qcm.calls k _ _ l1 0 a2 true _ (uD HR1 HB) HC1.out A4.out).mono ?_);rintro e w' ⟨rfl,⟨nd,rfl⟩⟩;(try first|exact ⟨rfl,_,World.drewN_drewN _ _ _⟩|exact ⟨rfl,_,Eq.trans (World.drewN_drewN _ _ _) (congrArg (World.drewN _) (Nat.add_assoc _ _ _))⟩);have hcz7_0:=bC BK420;have hfz7_0:=Qg BK420.out 0)))
  go_loopg [17] k (fun kq v17 w'=> ∃ (x17_1:Int),v17= .int .i64 x17_1∧Z0 (Qbw.l0 kq l1 l0_0 (l0_0.length:Int) x17_1=some r)∧Z0 (kq≤k)∧Z0 (w'.heap[gb420]? =some (.cells #[(.slice A0_0 l0_0.length c0_0)] 26 (0,0)))∧Z0 (Below w.heap.size w w'))
  case atStart=>exact ⟨(0),(by first|rfl|(simp;done)|(simp [*];done)),H',⟨Nat.le_refl _⟩,⟨uK BK420⟩,⟨(vB HB)⟩⟩
  case round=>
   clear H'
   try clear hcz7_0 hfz7_0
   obtain ⟨x17_1,rfl,HA,HK1,BK420,HB⟩:=hrel;cases gk with
   |zero=>exact absurd HA.out (by simp [Qbw.l0])
   |succ k1=>
    have H:=HA.out;clear HA;simp only [Qbw.l0] at H
    by_cases c8:x17_1<(l0_0.length:Int)
    ·
     rw [if_pos c8] at H;have c8b0:=decide_eq_true c8;clear c8
     by_cases c9:0≤x17_1
     ·
      rw [if_pos c9] at H;have c9b0:=decide_eq_true c9;clear c9
      by_cases c10:x17_1<(l0_0.length:Int)
      ·
       rw [if_pos c10] at H;have c10b0:=decide_eq_true c10;clear c10;have H':=Zk H;clear H;have p422:0≤(x17_1:Int):=of_decide_eq_true (by first|(with_reducible assumption)|assumption);have q422:x17_1<(l0_0.length:Int):=of_decide_eq_true (by first|(with_reducible assumption)|assumption);obtain ⟨ad422,e422,hx422_0⟩:=Kd.at_int HR0_0.out x17_1 p422 q422;cases e422;replace hx422_0:=(HB.out.cell (World.block_lt_of_cell? w _ hx422_0)).trans hx422_0;replace p422:=eq_true p422;replace q422:=eq_true q422;go_wp2
       repeat (go_quiet (fail);try go_wp2)
       go_loopg [9] k1 (fun kq v9 w'=> ∃ (x9_2:Int),v9= .int .i64 x9_2∧Z0 (Qbw.l1 kq l1 x17_1 (rd l0_0 x17_1) x9_2 l0_0 (l0_0.length:Int) x17_1=some r)∧Z0 (kq≤k1)∧Z0 (w'.heap[gb420]? =some (.cells #[(.slice (some ad422) l0_0.length c0_0)] 26 (0,0)))∧Z0 (Below w.heap.size w w'))
       case atStart=>exact ⟨(0),(by first|rfl|(simp;done)|(simp [*];done)),H',⟨Nat.le_refl _⟩,⟨uK BK420⟩,⟨(vB HB)⟩⟩
       case round=>
        clear H'
        try clear c8b0 c9b0 c10b0 hx422_0 p422 q422
        obtain ⟨x9_2,rfl,HA,HK2,BK420,HB⟩:=hrel;cases gk with
        |zero=>exact absurd HA.out (by simp [Qbw.l1])
        |succ k2=>
         have H:=HA.out;clear HA;simp only [Qbw.l1] at H
         by_cases c11:x9_2<x17_1
         ·
          rw [if_pos c11] at H;have c11b0:=decide_eq_true c11;clear c11;obtain ⟨t423,A12,H⟩:=bs H;(try dsimp only at H)
          by_cases c13:t423=true
          ·
           subst c13;rw [if_pos rfl] at H
           by_cases c14:0≤x9_2
           ·
            rw [if_pos c14] at H;have c14b0:=decide_eq_true c14;clear c14
            by_cases c15:x9_2<(l1.length:Int)
            ·
             rw [if_pos c15] at H;have c15b0:=decide_eq_true c15;clear c15
             by_cases c16:0≤x17_1
             ·
              rw [if_pos c16] at H;have c16b0:=decide_eq_true c16;clear c16
              by_cases c17:x17_1<(l1.length:Int)
              ·
               rw [if_pos c17] at H;have c17b0:=decide_eq_true c17;clear c17
               by_cases c18:(rd l1 x9_2)>(rd l1 x17_1)
               ·
                rw [if_pos c18] at H;have c18b0:=decide_eq_true c18;clear c18;obtain rfl:=Option.some.inj H;go_wp2_with (first|(go_at_call 59;(with_reducible refine (Qch.calls (rd l0_0 x17_1) x9_2 true _ A12.out).mono ?_);rintro e w' ⟨rfl,⟨nd,rfl⟩⟩;(try first|exact ⟨rfl,_,World.drewN_drewN _ _ _⟩|exact ⟨rfl,_,Eq.trans (World.drewN_drewN _ _ _) (congrArg (World.drewN _) (Nat.add_assoc _ _ _))⟩);have p424:0≤(x9_2:Int):=of_decide_eq_true (by first|(with_reducible assumption)|assumption);have q424:x9_2<(l1.length:Int):=of_decide_eq_true (by first|(with_reducible assumption)|assumption);obtain ⟨ad424,e424,hx424_0⟩:=Kd.at_int HR1.out x9_2 p424 q424;cases e424;replace hx424_0:=(HB.out.cell (World.block_lt_of_cell? w _ hx424_0)).trans hx424_0;replace p424:=eq_true p424;replace q424:=eq_true q424;have p425:0≤(x17_1:Int):=of_decide_eq_true (by first|(with_reducible assumption)|assumption);have q425:x17_1<(l1.length:Int):=of_decide_eq_true (by first|(with_reducible assumption)|assumption);obtain ⟨ad425,e425,hx425_0⟩:=Kd.at_int HR1.out x17_1 p425 q425;obtain rfl:ad424=ad425:=(by injection e425);replace hx425_0:=(HB.out.cell (World.block_lt_of_cell? w _ hx425_0)).trans hx425_0;replace p425:=eq_true p425;replace q425:=eq_true q425))
                repeat (go_quiet (first|(go_at_call 59;(with_reducible refine (Qch.calls (rd l0_0 x17_1) x9_2 true _ A12.out).mono ?_);rintro e w' ⟨rfl,⟨nd,rfl⟩⟩;(try first|exact ⟨rfl,_,World.drewN_drewN _ _ _⟩|exact ⟨rfl,_,Eq.trans (World.drewN_drewN _ _ _) (congrArg (World.drewN _) (Nat.add_assoc _ _ _))⟩);have p424:0≤(x9_2:Int):=of_decide_eq_true (by first|(with_reducible assumption)|assumption);have q424:x9_2<(l1.length:Int):=of_decide_eq_true (by first|(with_reducible assumption)|assumption);obtain ⟨ad424,e424,hx424_0⟩:=Kd.at_int HR1.out x9_2 p424 q424;cases e424;replace hx424_0:=(HB.out.cell (World.block_lt_of_cell? w _ hx424_0)).trans hx424_0;replace p424:=eq_true p424;replace q424:=eq_true q424;have p425:0≤(x17_1:Int):=of_decide_eq_true (by first|(with_reducible assumption)|assumption);have q425:x17_1<(l1.length:Int):=of_decide_eq_true (by first|(with_reducible assumption)|assumption);obtain ⟨ad425,e425,hx425_0⟩:=Kd.at_int HR1.out x17_1 p425 q425;obtain rfl:ad424=ad425:=(by injection e425);replace hx425_0:=(HB.out.cell (World.block_lt_of_cell? w _ hx425_0)).trans hx425_0;replace p425:=eq_true p425;replace q425:=eq_true q425));try go_wp2_with (first|(go_at_call 59;(with_reducible refine (Qch.calls (rd l0_0 x17_1) x9_2 true _ A12.out).mono ?_);rintro e w' ⟨rfl,⟨nd,rfl⟩⟩;(try first|exact ⟨rfl,_,World.drewN_drewN _ _ _⟩|exact ⟨rfl,_,Eq.trans (World.drewN_drewN _ _ _) (congrArg (World.drewN _) (Nat.add_assoc _ _ _))⟩);have p424:0≤(x9_2:Int):=of_decide_eq_true (by first|(with_reducible assumption)|assumption);have q424:x9_2<(l1.length:Int):=of_decide_eq_true (by first|(with_reducible assumption)|assumption);obtain ⟨ad424,e424,hx424_0⟩:=Kd.at_int HR1.out x9_2 p424 q424;cases e424;replace hx424_0:=(HB.out.cell (World.block_lt_of_cell? w _ hx424_0)).trans hx424_0;replace p424:=eq_true p424;replace q424:=eq_true q424;have p425:0≤(x17_1:Int):=of_decide_eq_true (by first|(with_reducible assumption)|assumption);have q425:x17_1<(l1.length:Int):=of_decide_eq_true (by first|(with_reducible assumption)|assumption);obtain ⟨ad425,e425,hx425_0⟩:=Kd.at_int HR1.out x17_1 p425 q425;obtain rfl:ad424=ad425:=(by injection e425);replace hx425_0:=(HB.out.cell (World.block_lt_of_cell? w _ hx425_0)).trans hx425_0;replace p425:=eq_true p425;replace q425:=eq_true q425)))
                go_ret
                exact ⟨by first|rfl|(simp [Qe,Qf] <;>rfl)|(simp [*,Qe,Qf] <;>rfl),(vB HB)⟩
               ·
                rw [if_neg c18] at H;have c18b0:=decide_eq_false c18;clear c18;have H':=Zk H;clear H;go_wp2_with (first|(go_at_call 59;(with_reducible refine (Qch.calls (rd l0_0 x17_1) x9_2 true _ A12.out).mono ?_);rintro e w' ⟨rfl,⟨nd,rfl⟩⟩;(try first|exact ⟨rfl,_,World.drewN_drewN _ _ _⟩|exact ⟨rfl,_,Eq.trans (World.drewN_drewN _ _ _) (congrArg (World.drewN _) (Nat.add_assoc _ _ _))⟩);have p424:0≤(x9_2:Int):=of_decide_eq_true (by first|(with_reducible assumption)|assumption);have q424:x9_2<(l1.length:Int):=of_decide_eq_true (by first|(with_reducible assumption)|assumption);obtain ⟨ad424,e424,hx424_0⟩:=Kd.at_int HR1.out x9_2 p424 q424;cases e424;replace hx424_0:=(HB.out.cell (World.block_lt_of_cell? w _ hx424_0)).trans hx424_0;replace p424:=eq_true p424;replace q424:=eq_true q424;have p425:0≤(x17_1:Int):=of_decide_eq_true (by first|(with_reducible assumption)|assumption);have q425:x17_1<(l1.length:Int):=of_decide_eq_true (by first|(with_reducible assumption)|assumption);obtain ⟨ad425,e425,hx425_0⟩:=Kd.at_int HR1.out x17_1 p425 q425;obtain rfl:ad424=ad425:=(by injection e425);replace hx425_0:=(HB.out.cell (World.block_lt_of_cell? w _ hx425_0)).trans hx425_0;replace p425:=eq_true p425;replace q425:=eq_true q425))
                repeat (go_quiet (first|(go_at_call 59;(with_reducible refine (Qch.calls (rd l0_0 x17_1) x9_2 true _ A12.out).mono ?_);rintro e w' ⟨rfl,⟨nd,rfl⟩⟩;(try first|exact ⟨rfl,_,World.drewN_drewN _ _ _⟩|exact ⟨rfl,_,Eq.trans (World.drewN_drewN _ _ _) (congrArg (World.drewN _) (Nat.add_assoc _ _ _))⟩);have p424:0≤(x9_2:Int):=of_decide_eq_true (by first|(with_reducible assumption)|assumption);have q424:x9_2<(l1.length:Int):=of_decide_eq_true (by first|(with_reducible assumption)|assumption);obtain ⟨ad424,e424,hx424_0⟩:=Kd.at_int HR1.out x9_2 p424 q424;cases e424;replace hx424_0:=(HB.out.cell (World.block_lt_of_cell? w _ hx424_0)).trans hx424_0;replace p424:=eq_true p424;replace q424:=eq_true q424;have p425:0≤(x17_1:Int):=of_decide_eq_true (by first|(with_reducible assumption)|assumption);have q425:x17_1<(l1.length:Int):=of_decide_eq_true (by first|(with_reducible assumption)|assumption);obtain ⟨ad425,e425,hx425_0⟩:=Kd.at_int HR1.out x17_1 p425 q425;obtain rfl:ad424=ad425:=(by injection e425);replace hx425_0:=(HB.out.cell (World.block_lt_of_cell? w _ hx425_0)).trans hx425_0;replace p425:=eq_true p425;replace q425:=eq_true q425));try go_wp2_with (first|(go_at_call 59;(with_reducible refine (Qch.calls (rd l0_0 x17_1) x9_2 true _ A12.out).mono ?_);rintro e w' ⟨rfl,⟨nd,rfl⟩⟩;(try first|exact ⟨rfl,_,World.drewN_drewN _ _ _⟩|exact ⟨rfl,_,Eq.trans (World.drewN_drewN _ _ _) (congrArg (World.drewN _) (Nat.add_assoc _ _ _))⟩);have p424:0≤(x9_2:Int):=of_decide_eq_true (by first|(with_reducible assumption)|assumption);have q424:x9_2<(l1.length:Int):=of_decide_eq_true (by first|(with_reducible assumption)|assumption);obtain ⟨ad424,e424,hx424_0⟩:=Kd.at_int HR1.out x9_2 p424 q424;cases e424;replace hx424_0:=(HB.out.cell (World.block_lt_of_cell? w _ hx424_0)).trans hx424_0;replace p424:=eq_true p424;replace q424:=eq_true q424;have p425:0≤(x17_1:Int):=of_decide_eq_true (by first|(with_reducible assumption)|assumption);have q425:x17_1<(l1.length:Int):=of_decide_eq_true (by first|(with_reducible assumption)|assumption);obtain ⟨ad425,e425,hx425_0⟩:=Kd.at_int HR1.out x17_1 p425 q425;obtain rfl:ad424=ad425:=(by injection e425);replace hx425_0:=(HB.out.cell (World.block_lt_of_cell? w _ hx425_0)).trans hx425_0;replace p425:=eq_true p425;replace q425:=eq_true q425)))
                go_roundg k2
                case measure=>have:=HK1.out;have:=HK2.out;omega
                case rel=>exact ⟨(wrap64 (x9_2+1)),(by first|rfl|(simp;done)|(simp [*];done)),H',⟨by have:=HK1.out;have:=HK2.out;omega⟩,⟨uK BK420⟩,⟨(vB HB)⟩⟩
              ·
               rw [if_neg c17] at H;exact absurd H (by simp)
             ·
              rw [if_neg c16] at H;exact absurd H (by simp)
            ·
             rw [if_neg c15] at H;exact absurd H (by simp)
           ·
            rw [if_neg c14] at H;exact absurd H (by simp)
          ·
           replace c13:=Bool.eq_false_iff.mpr c13;subst c13;rw [if_neg (show ¬ (false=true) by decide)] at H;have H':=Zk H;clear H;go_wp2_with (first|(go_at_call 59;(with_reducible refine (Qch.calls (rd l0_0 x17_1) x9_2 false _ A12.out).mono ?_);rintro e w' ⟨rfl,⟨nd,rfl⟩⟩;(try first|exact ⟨rfl,_,World.drewN_drewN _ _ _⟩|exact ⟨rfl,_,Eq.trans (World.drewN_drewN _ _ _) (congrArg (World.drewN _) (Nat.add_assoc _ _ _))⟩)))
           repeat (go_quiet (first|(go_at_call 59;(with_reducible refine (Qch.calls (rd l0_0 x17_1) x9_2 false _ A12.out).mono ?_);rintro e w' ⟨rfl,⟨nd,rfl⟩⟩;(try first|exact ⟨rfl,_,World.drewN_drewN _ _ _⟩|exact ⟨rfl,_,Eq.trans (World.drewN_drewN _ _ _) (congrArg (World.drewN _) (Nat.add_assoc _ _ _))⟩)));try go_wp2_with (first|(go_at_call 59;(with_reducible refine (Qch.calls (rd l0_0 x17_1) x9_2 false _ A12.out).mono ?_);rintro e w' ⟨rfl,⟨nd,rfl⟩⟩;(try first|exact ⟨rfl,_,World.drewN_drewN _ _ _⟩|exact ⟨rfl,_,Eq.trans (World.drewN_drewN _ _ _) (congrArg (World.drewN _) (Nat.add_assoc _ _ _))⟩))))
           go_roundg k2
           case measure=>have:=HK1.out;have:=HK2.out;omega
           case rel=>exact ⟨(wrap64 (x9_2+1)),(by first|rfl|(simp;done)|(simp [*];done)),H',⟨by have:=HK1.out;have:=HK2.out;omega⟩,⟨uK BK420⟩,⟨(vB HB)⟩⟩
         ·
          rw [if_neg c11] at H;have c11b0:=decide_eq_false c11;clear c11;have H':=Zk H;clear H;go_wp2
          repeat (go_quiet (fail);try go_wp2)
          go_roundg k2
          case measure=>have:=HK1.out;have:=HK2.out;omega
          case rel=>exact ⟨(wrap64 (x17_1+1)),(by first|rfl|(simp;done)|(simp [*];done)),H',⟨by have:=HK1.out;have:=HK2.out;omega⟩,⟨uK BK420⟩,⟨(vB HB)⟩⟩
      ·
       rw [if_neg c10] at H;exact absurd H (by simp)
     ·
      rw [if_neg c9] at H;exact absurd H (by simp)
    ·
     rw [if_neg c8] at H;have c8b0:=decide_eq_false c8;clear c8;obtain rfl:=Option.some.inj H;go_wp2
     repeat (go_quiet (fail);try go_wp2)
     go_ret
     exact ⟨by first|rfl|(simp [Qe,Qf] <;>rfl)|(simp [*,Qe,Qf] <;>rfl),(vB HB)⟩
 ·
  replace c5:=Bool.eq_false_iff.mpr c5;subst c5;rw [if_neg (show ¬ (false=true) by decide)] at H;obtain rfl:=Option.some.inj H;go_enter Try.func90,Try.ntmps90;go_wp2_with (first|(refine bE (N:=3) (cs:= #[.slice A0_0 l0_0.length c0_0]) (t:=26) ?_;intro gb420 hg w19 hbox hb;have BK420:=Zk (hbox);have GW420:=Zk ((by rw [hg];exact (Qh (uB HB)):w.heap.size≤gb420));have GE420:=GW420;replace HB:=Zk (Qc (uB HB) hb);clear hb hbox hg)|(go_at_call 121;(with_reducible refine (Qcm.calls k _ _ l1 0 a2 false _ (uD HR1 HB) HC1.out A4.out).mono ?_);rintro e w' ⟨rfl,⟨nd,rfl⟩⟩;(try first|exact ⟨rfl,_,World.drewN_drewN _ _ _⟩|exact ⟨rfl,_,Eq.trans (World.drewN_drewN _ _ _) (congrArg (World.drewN _) (Nat.add_assoc _ _ _))⟩)))
  repeat (go_quiet (first|(refine bE (N:=3) (cs:= #[.slice A0_0 l0_0.length c0_0]) (t:=26) ?_;intro gb420 hg w19 hbox hb;have BK420:=Zk (hbox);have GW420:=Zk ((by rw [hg];exact (Qh (uB HB)):w.heap.size≤gb420));have GE420:=GW420;replace HB:=Zk (Qc (uB HB) hb);clear hb hbox hg)|(go_at_call 121;(with_reducible refine (Qcm.calls k _ _ l1 0 a2 false _ (uD HR1 HB) HC1.out A4.out).mono ?_);rintro e w' ⟨rfl,⟨nd,rfl⟩⟩;(try first|exact ⟨rfl,_,World.drewN_drewN _ _ _⟩|exact ⟨rfl,_,Eq.trans (World.drewN_drewN _ _ _) (congrArg (World.drewN _) (Nat.add_assoc _ _ _))⟩)));try go_wp2_with (first|(refine bE (N:=3) (cs:= #[.slice A0_0 l0_0.length c0_0]) (t:=26) ?_;intro gb420 hg w19 hbox hb;have BK420:=Zk (hbox);have GW420:=Zk ((by rw [hg];exact (Qh (uB HB)):w.heap.size≤gb420));have GE420:=GW420;replace HB:=Zk (Qc (uB HB) hb);clear hb hbox hg)|(go_at_call 121;(with_reducible refine (Qcm.calls k _ _ l1 0 a2 false _ (uD HR1 HB) HC1.out A4.out).mono ?_);rintro e w' ⟨rfl,⟨nd,rfl⟩⟩;(try first|exact ⟨rfl,_,World.drewN_drewN _ _ _⟩|exact ⟨rfl,_,Eq.trans (World.drewN_drewN _ _ _) (congrArg (World.drewN _) (Nat.add_assoc _ _ _))⟩))))
  go_ret
  exact ⟨by first|rfl|(simp [Qe,Qf] <;>rfl)|(simp [*,Qe,Qf] <;>rfl),(vB HB)⟩
def Qc3.f (k:Nat) (l0_0:List Int) (l1:List Int) (a2:Int):Option (Bool):=(Qx.f k l0_0).bind fun t427=>(if t427=true then ((Qdj.f a2).bind fun t428=>(if t428=true then (if (l1.length:Int)=(l0_0.length:Int) then ((Qbw.f k l0_0 l1 a2).bind fun t429=>(some t429)) else (some false)) else (some false))) else (some false))
theorem Qc3.mono: ∀ a0 a1 a2 k,LeO (Qc3.f k a0 a1 a2) (Qc3.f (k+1) a0 a1 a2):=by
 intro a0 a1 a2 k;unfold Qc3.f
 repeat' (with_reducible first|apply Qbw.mono|apply Qx.mono|exact LeO.refl _|exact LeO.none _|refine LeO.ite ?_ ?_|refine LeO.bind ?_ (fun _=> ?_))
set_option maxHeartbeats 8000000 in
set_option maxRecDepth 100000 in
theorem Qc3.calls (k:Nat) (A0_0:Option Addr) (c0_0:Nat) (l0_0:List Int) (A1:Option Addr) (c1:Nat) (l1:List Int) (a2:Int) (r:Bool) (w:World) (hr0_0:Kd.C (Kd.int .i64) w A0_0 l0_0.length l0_0) (hc0_0:l0_0.length≤c0_0) (hr1:Kd.C (Kd.int .i64) w A1 l1.length l1) (hc1:l1.length≤c1) (h:Qc3.f k l0_0 l1 a2=some r):
 Calls Try.prog 69 #[.agg #[.slice A0_0 l0_0.length c0_0], .slice A1 l1.length c1, .int .i64 a2] w fun e w'=>e= .returned (.bool r)∧Below w.heap.size w w':=by
 have hu26:=Try.underlying26;have HR0_0:=Zk hr0_0;have HC0_0:=Zk hc0_0;clear hr0_0 hc0_0;have HR1:=Zk hr1;have HC1:=Zk hc1;clear hr1 hc1;have HB:=Zk (Below.refl w.heap.size w);have H:((Qx.f k l0_0).bind fun t427=>(if t427=true then ((Qdj.f a2).bind fun t428=>(if t428=true then (if (l1.length:Int)=(l0_0.length:Int) then ((Qbw.f k l0_0 l1 a2).bind fun t429=>(some t429)) else (some false)) else (some false))) else (some false)))=some r:=h;clear h;obtain ⟨t427,A4,H⟩:=bs H;(try dsimp only at H)
 by_cases c5:t427=true
 ·
  subst c5;rw [if_pos rfl] at H;obtain ⟨t428,A6,H⟩:=bs H;(try dsimp only at H)
  by_cases c7:t428=true
  ·
   subst c7;rw [if_pos rfl] at H
   by_cases c8:(l1.length:Int)=(l0_0.length:Int)
   ·
    rw [if_pos c8] at H;have c8b0:((l1.length:Int)==(l0_0.length:Int))=true:=beq_iff_eq.mpr c8;have c8b1:((l1.length:Int) !=(l0_0.length:Int))=false:=bne_eq_false_iff_eq.mpr c8;have c8b2:(l1.length==l0_0.length)=true:=by first|simpa using c8|(simp at c8 ⊢;omega)
    clear c8;obtain ⟨t429,A9,H⟩:=bs H;(try dsimp only at H)
    obtain rfl:=Option.some.inj H;go_enter Try.func69,Try.ntmps69;go_wp2_with (first|((with_reducible refine Qb2 (N:=3) rfl ?_);(try (refine Qcx (by rfl) ?_;dsimp only));refine bE (N:=3) (cs:= #[.slice A0_0 l0_0.length c0_0]) (t:=26) ?_;intro gb426 hg w10 hbox hb;have BK426:=Zk (hbox);have GW426:=Zk ((by rw [hg];exact (Qh (uB HB)):w.heap.size≤gb426));have GE426:=GW426;replace HB:=Zk (Qc (uB HB) hb);clear hb hbox hg;have hcz11_0:=bC BK426;have hfz11_0:=Qg BK426.out 0)|(refine gA (some 8) Try.func88 #[.agg #[.slice A0_0 l0_0.length c0_0]] ?_;(with_reducible refine (Qx.calls k _ _ l0_0 true _ (uD HR0_0 HB) HC0_0.out A4.out).mono ?_);rintro e w12 ⟨rfl,hb⟩;refine ⟨_,rfl,?_⟩;replace BK426:=Zk (Qd (uK BK426) hb);replace HB:=Zk (Qc (vB HB) hb);(try clear hb))|(go_at_call 89;(with_reducible refine (Qdj.calls a2 true _ A6.out).mono ?_);rintro e w' ⟨rfl,⟨nd,rfl⟩⟩;have hcz13_0:=bC BK426;have hfz13_0:=Qg BK426.out 0)|(go_at_call 90;(with_reducible refine (Qbw.calls k _ _ l0_0 _ _ l1 a2 t429 _ ?side1 HC0_0.out ?side3 HC1.out A9.out).mono ?_);(case side1=>repeat (first|exact (Kd.C_below HR0_0.out (vB HB))|(with_reducible refine Kd.C_alloc ?_ _)|(with_reducible refine Kd.C_drewN ?_ _)|(with_reducible refine Kd.C_drew ?_)));(case side3=>repeat (first|exact (Kd.C_below HR1.out (vB HB))|(with_reducible refine Kd.C_alloc ?_ _)|(with_reducible refine Kd.C_drewN ?_ _)|(with_reducible refine Kd.C_drew ?_)));rintro e w14 ⟨rfl,hb⟩;replace BK426:=Zk (Qd (uK BK426) hb);replace HB:=Zk (Qc (vB HB) hb);(try clear hb)))
    go_ret
    exact ⟨by first|rfl|(simp [Qe,Qf] <;>rfl)|(simp [*,Qe,Qf] <;>rfl),(vB HB)⟩
   ·
    rw [if_neg c8] at H;have c8b0:((l1.length:Int)==(l0_0.length:Int))=false:=beq_eq_false_iff_ne.mpr c8;have c8b1:((l1.length:Int) !=(l0_0.length:Int))=true:=bne_iff_ne.mpr c8;have c8b2:(l1.length==l0_0.length)=false:=by first|simpa using c8|(simp at c8 ⊢;omega)
    obtain rfl:=Option.some.inj H;go_enter Try.func69,Try.ntmps69;go_wp2_with (first|((with_reducible refine Qb2 (N:=3) rfl ?_);(try (refine Qcx (by rfl) ?_;dsimp only));refine bE (N:=3) (cs:= #[.slice A0_0 l0_0.length c0_0]) (t:=26) ?_;intro gb426 hg w15 hbox hb;have BK426:=Zk (hbox);have GW426:=Zk ((by rw [hg];exact (Qh (uB HB)):w.heap.size≤gb426));have GE426:=GW426;replace HB:=Zk (Qc (uB HB) hb);clear hb hbox hg;have hcz16_0:=bC BK426;have hfz16_0:=Qg BK426.out 0)|(refine gA (some 8) Try.func88 #[.agg #[.slice A0_0 l0_0.length c0_0]] ?_;(with_reducible refine (Qx.calls k _ _ l0_0 true _ (uD HR0_0 HB) HC0_0.out A4.out).mono ?_);rintro e w17 ⟨rfl,hb⟩;refine ⟨_,rfl,?_⟩;replace BK426:=Zk (Qd (uK BK426) hb);replace HB:=Zk (Qc (vB HB) hb);(try clear hb))|(go_at_call 89;(with_reducible refine (Qdj.calls a2 true _ A6.out).mono ?_);rintro e w' ⟨rfl,⟨nd,rfl⟩⟩;have hcz18_0:=bC BK426;have hfz18_0:=Qg BK426.out 0))
    go_ret
    exact ⟨by first|rfl|(simp [Qe,Qf] <;>rfl)|(simp [*,Qe,Qf] <;>rfl),(vB HB)⟩
  ·
   replace c7:=Bool.eq_false_iff.mpr c7;subst c7;rw [if_neg (show ¬ (false=true) by decide)] at H;obtain rfl:=Option.some.inj H;go_enter Try.func69,Try.ntmps69;go_wp2_with (first|((with_reducible refine Qb2 (N:=3) rfl ?_);(try (refine Qcx (by rfl) ?_;dsimp only));refine bE (N:=3) (cs:= #[.slice A0_0 l0_0.length c0_0]) (t:=26) ?_;intro gb426 hg w19 hbox hb;have BK426:=Zk (hbox);have GW426:=Zk ((by rw [hg];exact (Qh (uB HB)):w.heap.size≤gb426));have GE426:=GW426;replace HB:=Zk (Qc (uB HB) hb);clear hb hbox hg;have hcz20_0:=bC BK426;have hfz20_0:=Qg BK426.out 0)|(refine gA (some 8) Try.func88 #[.agg #[.slice A0_0 l0_0.length c0_0]] ?_;(with_reducible refine (Qx.calls k _ _ l0_0 true _ (uD HR0_0 HB) HC0_0.out A4.out).mono ?_);rintro e w21 ⟨rfl,hb⟩;refine ⟨_,rfl,?_⟩;replace BK426:=Zk (Qd (uK BK426) hb);replace HB:=Zk (Qc (vB HB) hb);(try clear hb))|(go_at_call 89;(with_reducible refine (Qdj.calls a2 false _ A6.out).mono ?_);rintro e w' ⟨rfl,⟨nd,rfl⟩⟩))
   go_ret
   exact ⟨by first|rfl|(simp [Qe,Qf] <;>rfl)|(simp [*,Qe,Qf] <;>rfl),(vB HB)⟩
 ·
  replace c5:=Bool.eq_false_iff.mpr c5;subst c5;rw [if_neg (show ¬ (false=true) by decide)] at H;obtain rfl:=Option.some.inj H;go_enter Try.func69,Try.ntmps69;go_wp2_with (first|((with_reducible refine Qb2 (N:=3) rfl ?_);(try (refine Qcx (by rfl) ?_;dsimp only));refine bE (N:=3) (cs:= #[.slice A0_0 l0_0.length c0_0]) (t:=26) ?_;intro gb426 hg w22 hbox hb;have BK426:=Zk (hbox);have GW426:=Zk ((by rw [hg];exact (Qh (uB HB)):w.heap.size≤gb426));have GE426:=GW426;replace HB:=Zk (Qc (uB HB) hb);clear hb hbox hg;have hcz23_0:=bC BK426;have hfz23_0:=Qg BK426.out 0)|(refine gA (some 8) Try.func88 #[.agg #[.slice A0_0 l0_0.length c0_0]] ?_;(with_reducible refine (Qx.calls k _ _ l0_0 false _ (uD HR0_0 HB) HC0_0.out A4.out).mono ?_);rintro e w24 ⟨rfl,hb⟩;refine ⟨_,rfl,?_⟩;replace BK426:=Zk (Qd (uK BK426) hb);replace HB:=Zk (Qc (vB HB) hb);(try clear hb)))
  go_ret
  exact ⟨by first|rfl|(simp [Qe,Qf] <;>rfl)|(simp [*,Qe,Qf] <;>rfl),(vB HB)⟩
end Go.Proofs.Ytkgngggppcmpfaa.L
end
