/- Laws about the given program: the law FnArrayOrbits answers true for every input that its row lets in; no condition is added to the given statement. Contracts of the Go functions that it reaches, and the plain proof over lists. -/
import Derived.Test.YtkgngggppcmpfaaWFnArrayOrbits0
import Derived.Test.YtkgngggppcmpfaaKFnArrayOrbits0
import Derived.Test.YtkgngggppcmpfaaKFnArrayOrbits1
import Derived.Test.YtkgngggppcmpfaaKFnArrayOrbits2
import Derived.Test.YtkgngggppcmpfaaKFnArrayOrbits3
section
namespace Go.Proofs.Ytkgngggppcmpfaa.L
open Go.RowKit Go.Proofs.YtkgngggppcmpfaaW.PrintWords Go.Proofs.YtkgngggppcmpfaaW.PrintLast Go.Proofs.YtkgngggppcmpfaaW.PrintMore
attribute [local go_sem] Qbj Qbi Qbu Qbt Qbd Qbc Qbk Qbl
set_option linter.unusedVariables false
set_option linter.unusedSimpArgs false
mutual
def Qz.l0 : Nat → Int → List Int → Int → Int → List Int → Int → Int → List Int → Option (List Int × List Int × Int)
 |0,_,_,_,_,_,_,_,_=>none
 |k+1,x7,x8,x27,x28,x298000,x298001,x298002,x308000=>if x28<x27 then (Qz.l1 k x7 x8 x28 0 x27 x28 x8 (x8.length:Int) 0 x298000 x298001 x298002 x308000) else (some (x308000,x8,x7))
def Qz.l1 : Nat → Int → List Int → Int → Int → Int → Int → List Int → Int → Int → List Int → Int → Int → List Int → Option (List Int × List Int × Int)
 |0,_,_,_,_,_,_,_,_,_,_,_,_,_=>none
 |k+1,x7,x8,x9,x10,x27,x28,x31,x32,x33,x298000,x298001,x298002,x308000=>if x33<x32 then (if 0≤x33 then (if x33<(x31.length:Int) then (if 0≤x9 then (if x9<(x308000.length:Int) then ((Qcr.f (rd x308000 x9) x33).bind fun t319=>(if t319=true then ((Qcl.f x10 (rd x31 x33)).bind fun t320=>(Qz.l1 k x7 x8 x9 t320 x27 x28 x31 x32 (wrap64 (x33+1)) x298000 x298001 x298002 x308000)) else (Qz.l1 k x7 x8 x9 x10 x27 x28 x31 x32 (wrap64 (x33+1)) x298000 x298001 x298002 x308000))) else (none)) else (none)) else (none)) else (none)) else ((Qs.f x298000 x298001 x298002 (wrap64 ((wrap64 (x7 - x10))+1))).bind fun bt311=>(if x8.length<17592186044416 then (Qz.l0 k x7 (x8++ [wrap64 (x10+bt311.1)]) x27 (wrap64 (x28+1)) x298000 bt311.2.1 bt311.2.2 x308000) else (none)))
end
def Qz.f (k : Nat) (l0 : List Int) : Option (List Int × List Int × Int) := (Qdl.f l0 0 0 2).bind fun bt298 => (if bt298.1 = true then ((Qs.f l0 bt298.2.1 bt298.2.2 3).bind fun bt301 => ((Q4.f k 2 (wrap64 (1 + bt301.1))).bind fun t304 => ((Qs.f l0 bt301.2.1 bt301.2.2 6).bind fun bt308 => (Qz.l0 k (wrap64 (1 + bt308.1)) ([] : List Int) (t304.length : Int) 0 l0 bt308.2.1 bt308.2.2 t304)))) else ((Q0.f k l0 bt298.2.1 bt298.2.2 5).bind fun bt321 => (some (bt321.1, bt321.2.1, bt321.2.2.1))))
theorem Qz.mono_l : ∀ k, (∀ y0 y1 y2 y3 y4 y5 y6 y7, LeO (Qz.l0 k y0 y1 y2 y3 y4 y5 y6 y7) (Qz.l0 (k + 1) y0 y1 y2 y3 y4 y5 y6 y7)) ∧ (∀ y0 y1 y2 y3 y4 y5 y6 y7 y8 y9 y10 y11 y12, LeO (Qz.l1 k y0 y1 y2 y3 y4 y5 y6 y7 y8 y9 y10 y11 y12) (Qz.l1 (k + 1) y0 y1 y2 y3 y4 y5 y6 y7 y8 y9 y10 y11 y12))
 |0=>⟨fun _ _ _ _ _ _ _ _ r h=>by simp [Qz.l0] at h,fun _ _ _ _ _ _ _ _ _ _ _ _ _ r h=>by simp [Qz.l1] at h⟩
 |k+1=>by
  obtain ⟨ih0,ih1⟩:=Qz.mono_l k;refine ⟨?_,?_⟩
  ·
   intro y0 y1 y2 y3 y4 y5 y6 y7;unfold Qz.l0
   repeat' first
   |(with_reducible exact ih0 _ _ _ _ _ _ _ _)
   |(with_reducible exact ih1 _ _ _ _ _ _ _ _ _ _ _ _ _)
   |(with_reducible exact Q0.mono _ _ _ _ _)
   |(with_reducible exact Q4.mono _ _ _)
   |(with_reducible exact LeO.refl _)
   |(with_reducible exact LeO.none _)
   |(with_reducible refine LeO.ite ?_ ?_)
   |(with_reducible refine LeO.bind ?_ (fun _=> ?_))
   |exact ih0 _ _ _ _ _ _ _ _
   |exact ih1 _ _ _ _ _ _ _ _ _ _ _ _ _
   |exact Q0.mono _ _ _ _ _
   |exact Q4.mono _ _ _
   |exact LeO.none _
   |refine LeO.ite ?_ ?_
   |refine LeO.bind ?_ (fun _=> ?_)
  ·
   intro y0 y1 y2 y3 y4 y5 y6 y7 y8 y9 y10 y11 y12;unfold Qz.l1
   repeat' first
   |(with_reducible exact ih0 _ _ _ _ _ _ _ _)
   |(with_reducible exact ih1 _ _ _ _ _ _ _ _ _ _ _ _ _)
   |(with_reducible exact Q0.mono _ _ _ _ _)
   |(with_reducible exact Q4.mono _ _ _)
   |(with_reducible exact LeO.refl _)
   |(with_reducible exact LeO.none _)
   |(with_reducible refine LeO.ite ?_ ?_)
   |(with_reducible refine LeO.bind ?_ (fun _=> ?_))
   |exact ih0 _ _ _ _ _ _ _ _
   |exact ih1 _ _ _ _ _ _ _ _ _ _ _ _ _
   |exact Q0.mono _ _ _ _ _
   |exact Q4.mono _ _ _
   |exact LeO.none _
   |refine LeO.ite ?_ ?_
   |refine LeO.bind ?_ (fun _=> ?_)
theorem Qz.mono : ∀ a0 k, LeO (Qz.f k a0) (Qz.f (k + 1) a0) := by
 intro a0 k;obtain ⟨ih0,ih1⟩:=Qz.mono_l k;unfold Qz.f
 repeat' first
  |(with_reducible exact ih0 _ _ _ _ _ _ _ _)
  |(with_reducible exact ih1 _ _ _ _ _ _ _ _ _ _ _ _ _)
  |(with_reducible exact Q0.mono _ _ _ _ _)
  |(with_reducible exact Q4.mono _ _ _)
  |(with_reducible exact LeO.refl _)
  |(with_reducible exact LeO.none _)
  |(with_reducible refine LeO.ite ?_ ?_)
  |(with_reducible refine LeO.bind ?_ (fun _=> ?_))
  |exact ih0 _ _ _ _ _ _ _ _
  |exact ih1 _ _ _ _ _ _ _ _ _ _ _ _ _
  |exact Q0.mono _ _ _ _ _
  |exact Q4.mono _ _ _
  |exact LeO.none _
  |refine LeO.ite ?_ ?_
  |refine LeO.bind ?_ (fun _=> ?_)
set_option maxHeartbeats 8000000 in
set_option maxRecDepth 100000 in
theorem Qz.calls (k : Nat) (A0 : Option Addr) (c0 : Nat) (l0 : List Int) (r1 : List Int) (r2 : List Int) (r3 : Int) (w : World) (hr0 : Kd.C (Kd.int .u8) w A0 l0.length l0) (hc0 : l0.length ≤ c0) (h : Qz.f k l0 = some (r1, r2, r3)) :
 Calls Try.prog 7 #[.slice A0 l0.length c0] w fun e w'=> ∃ v0_ v1_:Value,e= .returned (.tuple #[.agg #[v0_],v1_, .int .i64 r3])∧Kd.R (Kd.int .i64) 3 w' w.heap.size (fun k_=>some k_≠(v1_:Value).ownBlock) v0_ r1∧Kd.R (Kd.int .i64) 3 w' w.heap.size (fun k_=>some k_≠(v0_:Value).ownBlock) v1_ r2∧Below w.heap.size w w':=by
 have hu26:=Try.underlying26;have hu67:=Try.underlying67;have HR0:=Aside0.mk hr0;have HC0:=Aside0.mk hc0;clear hr0 hc0;have HB:=Aside0.mk (Below.refl w.heap.size w);have H:((Qdl.f l0 0 0 2).bind fun bt298=>(if bt298.1=true then ((Qs.f l0 bt298.2.1 bt298.2.2 3).bind fun bt301=>((Q4.f k 2 (wrap64 (1+bt301.1))).bind fun t304=>((Qs.f l0 bt301.2.1 bt301.2.2 6).bind fun bt308=>(Qz.l0 k (wrap64 (1+bt308.1)) ([] :List Int) (t304.length:Int) 0 l0 bt308.2.1 bt308.2.2 t304)))) else ((Q0.f k l0 bt298.2.1 bt298.2.2 5).bind fun bt321=>(some (bt321.1,bt321.2.1,bt321.2.2.1)))))=some (r1,r2,r3):=h;clear h;replace H:=Option.bind_eq_some_iff.mp H;obtain ⟨⟨t298,t299,t300⟩,A20,H⟩:=H;replace H:(if t298=true then ((Qs.f l0 t299 t300 3).bind fun bt301=>((Q4.f k 2 (wrap64 (1+bt301.1))).bind fun t304=>((Qs.f l0 bt301.2.1 bt301.2.2 6).bind fun bt308=>(Qz.l0 k (wrap64 (1+bt308.1)) ([] :List Int) (t304.length:Int) 0 l0 bt308.2.1 bt308.2.2 t304)))) else ((Q0.f k l0 t299 t300 5).bind fun bt321=>(some (bt321.1,bt321.2.1,bt321.2.2.1))))=some (r1,r2,r3):=H;have A2:=Aside0.mk A20;clear A20
 by_cases c3:t298=true
 ·
  subst c3;have H1:((Qs.f l0 t299 t300 3).bind fun bt301=>((Q4.f k 2 (wrap64 (1+bt301.1))).bind fun t304=>((Qs.f l0 bt301.2.1 bt301.2.2 6).bind fun bt308=>(Qz.l0 k (wrap64 (1+bt308.1)) ([] :List Int) (t304.length:Int) 0 l0 bt308.2.1 bt308.2.2 t304))))=some (r1,r2,r3):=by rw [if_pos rfl] at H;exact H
  clear H;have H:=H1;clear H1;replace H:=Option.bind_eq_some_iff.mp H;obtain ⟨⟨t301,t302,t303⟩,A40,H⟩:=H;replace H:((Q4.f k 2 (wrap64 (1+t301))).bind fun t304=>((Qs.f l0 t302 t303 6).bind fun bt308=>(Qz.l0 k (wrap64 (1+bt308.1)) ([] :List Int) (t304.length:Int) 0 l0 bt308.2.1 bt308.2.2 t304)))=some (r1,r2,r3):=H;have A4:=Aside0.mk A40;clear A40;replace H:=Option.bind_eq_some_iff.mp H;obtain ⟨t304,A50,H⟩:=H;replace H:((Qs.f l0 t302 t303 6).bind fun bt308=>(Qz.l0 k (wrap64 (1+bt308.1)) ([] :List Int) (t304.length:Int) 0 l0 bt308.2.1 bt308.2.2 t304))=some (r1,r2,r3):=H;have A5:=Aside0.mk A50;clear A50;replace H:=Option.bind_eq_some_iff.mp H;obtain ⟨⟨t308,t309,t310⟩,A60,H⟩:=H;replace H:(Qz.l0 k (wrap64 (1+t308)) ([] :List Int) (t304.length:Int) 0 l0 t309 t310 t304)=some (r1,r2,r3):=H;have A6:=Aside0.mk A60;clear A60;have H':=Aside0.mk H;clear H;go_enter Try.func7,Try.ntmps7;go_wp2_with (first|((with_reducible refine Qbb (N:=2) rfl ?_);refine Qbg ?hg (N:=2) ?hd (cs:= #[.slice none 0 0]) (t:=26) ?hr ?_;(case hd=>rfl);(case hg=>rfl);(case hr=>first|(go_simp;done)|(go_simp;rfl));intro gb296 hg w7 hbox hb;have BK296:=Aside0.mk (hbox);have GW296:=Aside0.mk ((by rw [hg];exact (Qq (by repeat (first|(with_reducible first|exact HB.out|apply Qc|apply Qa|apply Qd)|exact HB.out))):w.heap.size≤gb296));have GE296:=GW296;replace HB:=Aside0.mk (Qj (by repeat (first|(with_reducible first|exact HB.out|apply Qc|apply Qa|apply Qd)|exact HB.out)) hb);clear hb hbox hg)|((with_reducible refine Qbb (N:=15) rfl ?_);refine Qbg ?hg (N:=15) ?hd (cs:= #[.slice A0 l0.length c0, .int .i64 0, .int .u64 0]) (t:=67) ?hr ?_;(case hd=>rfl);(case hg=>rfl);(case hr=>first|(go_simp;done)|(go_simp;rfl));intro gb297 hg w8 hbox hb;have HI297:=Aside0.mk ((⟨_,_,hbox,(by rw [hg];exact (Qq (by repeat (first|(with_reducible first|exact HB.out|apply Qc|apply Qa|apply Qd|refine Qe ?_ GE296.out)|exact HB.out))):w.heap.size≤gb297),HR0.out⟩:Qb w _ gb297 l0 0 0));have GW297:=Aside0.mk ((by rw [hg];exact (Qq (by repeat (first|(with_reducible first|exact HB.out|apply Qc|apply Qa|apply Qd|refine Qe ?_ GE296.out)|exact HB.out))):w.heap.size≤gb297));have GE297:=GW297;replace HB:=Aside0.mk (Qj (by repeat (first|(with_reducible first|exact HB.out|apply Qc|apply Qa|apply Qd|refine Qe ?_ GE296.out)|exact HB.out)) hb);have NB296_297:=Aside0.mk ((by rw [hg];exact Nat.ne_of_lt (Qcu (g:=gb296) (o:= .cells #[.slice none 0 0] 26 (0,0)) (by (with_reducible repeat (first|refine Qg ?_ _|refine Qh ?_|refine Qf ?_ _));exact BK296.out)):gb296≠gb297));have NB297_296:=Aside0.mk ((by rw [hg];exact Nat.ne_of_gt (Qcu (g:=gb296) (o:= .cells #[.slice none 0 0] 26 (0,0)) (by (with_reducible repeat (first|refine Qg ?_ _|refine Qh ?_|refine Qf ?_ _));exact BK296.out)):gb297≠gb296));replace BK296:=Aside0.mk (Qu (g:=gb296) (o:= .cells #[.slice none 0 0] 26 (0,0)) (by (with_reducible repeat (first|refine Qg ?_ _|refine Qh ?_|refine Qf ?_ _));exact BK296.out) hb);clear hb hbox hg)|((with_reducible refine Qk (f:=56) rfl ?_);refine Q6 (some 17) rfl rfl Try.func56 (by kernel_rfl) rfl #[.pointer (some ⟨gb297,0,none⟩), .int .i64 2] rfl (by (try simp only [List.map_toArray,List.map_cons,List.map_nil]);first|done|rfl|(simp only [List.length_drop,List.length_take];rfl)) ?_;(with_reducible refine (Qdl.calls gb297 l0 0 0 2 true t299 t300 w _ ?side1 ?side2 A2.out).mono ?_);(case side1=>repeat (first|(with_reducible first|exact HI297.out|apply Qb.alloc|apply Qb.drewN|apply Qb.drew|apply Qb.set_1|apply Qb.set_2|refine Qb.far ?_ NB297_296.out _)|exact HI297.out));(case side2=>repeat (first|(with_reducible first|exact HB.out|apply Qc|apply Qa|apply Qd|refine Qe ?_ (Qb.ge HI297.out)|refine Qe ?_ GE296.out)|exact HB.out));rintro e w9 ⟨rfl,hi,hb,hk⟩;refine ⟨_,rfl,?_⟩;replace BK296:=Aside0.mk (Qi.blk hk (g':=gb296) (o:= .cells #[.slice none 0 0] 26 (0,0)) (by (with_reducible repeat (first|refine Qg ?_ _|refine Qh ?_|refine Qf ?_ _));exact BK296.out) NB296_297.out (by simp));replace HB:=Aside0.mk (hb);replace HI297:=Aside0.mk (hi);(try clear hb);(try clear hb2);(try clear hk);(try clear hi))|((with_reducible refine Qk (f:=58) rfl ?_);refine Q6 (some 19) rfl rfl Try.func58 (by kernel_rfl) rfl #[.pointer (some ⟨gb297,0,none⟩), .int .i64 3] rfl (by (try simp only [List.map_toArray,List.map_cons,List.map_nil]);first|done|rfl|(simp only [List.length_drop,List.length_take];rfl)) ?_;(with_reducible refine (Qs.calls gb297 l0 t299 t300 3 t301 t302 t303 w _ ?side1 ?side2 A4.out).mono ?_);(case side1=>repeat (first|(with_reducible first|exact HI297.out|apply Qb.alloc|apply Qb.drewN|apply Qb.drew|apply Qb.set_1|apply Qb.set_2|refine Qb.far ?_ NB297_296.out _)|exact HI297.out));(case side2=>repeat (first|(with_reducible first|exact HB.out|apply Qc|apply Qa|apply Qd|refine Qe ?_ (Qb.ge HI297.out)|refine Qe ?_ GE296.out)|exact HB.out));rintro e w10 ⟨rfl,hi,hb,hk⟩;refine ⟨_,rfl,?_⟩;replace BK296:=Aside0.mk (Qi.blk hk (g':=gb296) (o:= .cells #[.slice none 0 0] 26 (0,0)) (by (with_reducible repeat (first|refine Qg ?_ _|refine Qh ?_|refine Qf ?_ _));exact BK296.out) NB296_297.out (by simp));replace HB:=Aside0.mk (hb);replace HI297:=Aside0.mk (hi);(try clear hb);(try clear hb2);(try clear hk);(try clear hi))|((with_reducible refine Qk (f:=57) rfl ?_);refine Q6 (some 21) rfl rfl Try.func57 (by kernel_rfl) rfl #[.int .i64 2, .int .i64 (wrap64 (1+t301))] rfl (by (try simp only [List.map_toArray,List.map_cons,List.map_nil]);first|done|rfl|(simp only [List.length_drop,List.length_take];rfl)) ?_;(with_reducible refine (Q4.calls k 2 (wrap64 (1+t301)) t304 _ A5.out).mono ?_);rintro e w11 ⟨v305,rfl,ho0,hb⟩;refine ⟨_,rfl,?_⟩;have HO306:=Aside0.mk (Kd.R_lower ho0 (Qq (by repeat (first|(with_reducible first|exact HB.out|apply Qc|apply Qa|apply Qd|refine Qe ?_ (Qb.ge HI297.out)|refine Qe ?_ GE296.out)|exact HB.out))));replace BK296:=Aside0.mk (Qu (g:=gb296) (o:= .cells #[.slice none 0 0] 26 (0,0)) (by (with_reducible repeat (first|refine Qg ?_ _|refine Qh ?_|refine Qf ?_ _));exact BK296.out) hb);replace HB:=Aside0.mk (Qj (by repeat (first|(with_reducible first|exact HB.out|apply Qc|apply Qa|apply Qd|refine Qe ?_ (Qb.ge HI297.out)|refine Qe ?_ GE296.out)|exact HB.out)) hb);replace HI297:=Aside0.mk (Qb.below (by repeat (first|(with_reducible first|exact HI297.out|apply Qb.alloc|apply Qb.drewN|apply Qb.drew|apply Qb.set_1|apply Qb.set_2|refine Qb.far ?_ NB297_296.out _)|exact HI297.out)) hb);(try clear hb);(try clear hb2);(try clear hk);(try clear hi);(try clear ho0))|((with_reducible refine Qbb (N:=6) rfl ?_);refine Qbg ?hg (N:=6) ?hd (cs:= #[.slice none 0 0]) (t:=26) ?hr ?_;(case hd=>rfl);(case hg=>rfl);(case hr=>first|(go_simp;done)|(go_simp;rfl));intro gb307 hg w12 hbox hb;replace HO306:=Aside0.mk (Kd.R_below (by (with_reducible repeat (first|apply Kd.R_alloc|apply Kd.R_drewN|apply Kd.R_drew));exact HO306.out) hb);have BK307:=Aside0.mk (hbox);have GW307:=Aside0.mk ((by rw [hg];exact (Qq (by repeat (first|(with_reducible first|exact HB.out|apply Qc|apply Qa|apply Qd|refine Qe ?_ (Qb.ge HI297.out)|refine Qe ?_ GE296.out)|exact HB.out))):w.heap.size≤gb307));have GE307:=GW307;replace HB:=Aside0.mk (Qj (by repeat (first|(with_reducible first|exact HB.out|apply Qc|apply Qa|apply Qd|refine Qe ?_ (Qb.ge HI297.out)|refine Qe ?_ GE296.out)|exact HB.out)) hb);have NB296_307:=Aside0.mk ((by rw [hg];exact Nat.ne_of_lt (Qcu (g:=gb296) (o:= .cells #[.slice none 0 0] 26 (0,0)) (by (with_reducible repeat (first|refine Qg ?_ _|refine Qh ?_|refine Qf ?_ _));exact BK296.out)):gb296≠gb307));have NB307_296:=Aside0.mk ((by rw [hg];exact Nat.ne_of_gt (Qcu (g:=gb296) (o:= .cells #[.slice none 0 0] 26 (0,0)) (by (with_reducible repeat (first|refine Qg ?_ _|refine Qh ?_|refine Qf ?_ _));exact BK296.out)):gb307≠gb296));replace BK296:=Aside0.mk (Qu (g:=gb296) (o:= .cells #[.slice none 0 0] 26 (0,0)) (by (with_reducible repeat (first|refine Qg ?_ _|refine Qh ?_|refine Qf ?_ _));exact BK296.out) hb);have NB297_307:=Aside0.mk ((by rw [hg];exact Nat.ne_of_lt (Qb.lt (show Qb w _ gb297 l0 t302 t303 from by repeat (first|(with_reducible first|exact HI297.out|apply Qb.alloc|apply Qb.drewN|apply Qb.drew|apply Qb.set_1|apply Qb.set_2|refine Qb.far ?_ NB297_296.out _)|exact HI297.out))):gb297≠gb307));have NB307_297:=Aside0.mk ((by rw [hg];exact Nat.ne_of_gt (Qb.lt (show Qb w _ gb297 l0 t302 t303 from by repeat (first|(with_reducible first|exact HI297.out|apply Qb.alloc|apply Qb.drewN|apply Qb.drew|apply Qb.set_1|apply Qb.set_2|refine Qb.far ?_ NB297_296.out _)|exact HI297.out))):gb307≠gb297));replace HI297:=Aside0.mk (Qb.below (by repeat (first|(with_reducible first|exact HI297.out|apply Qb.alloc|apply Qb.drewN|apply Qb.drew|apply Qb.set_1|apply Qb.set_2|refine Qb.far ?_ NB297_296.out _)|exact HI297.out)) hb);clear hb hbox hg;obtain ⟨Ao13,co13,eo13⟩:=Kd.R_slice HO306.out;subst eo13;have hnb14:=NB307_296.out;have hnc14:=NB296_307.out;have hnb15:=NB307_297.out;have hnc15:=NB297_307.out;have hcz16_0:w12.cell? ⟨gb307,0,none⟩=some (.slice none 0 0):=(Qx BK307.out 0).trans rfl;have hfz16_0:=Qp BK307.out 0)|((with_reducible refine Qk (f:=58) rfl ?_);refine Q6 (some 23) rfl rfl Try.func58 (by kernel_rfl) rfl #[.pointer (some ⟨gb297,0,none⟩), .int .i64 6] rfl (by (try simp only [List.map_toArray,List.map_cons,List.map_nil]);first|done|rfl|(simp only [List.length_drop,List.length_take];rfl)) ?_;(with_reducible refine (Qs.calls gb297 l0 t302 t303 6 t308 t309 t310 w _ ?side1 ?side2 A6.out).mono ?_);(case side1=>repeat (first|(with_reducible first|exact HI297.out|apply Qb.alloc|apply Qb.drewN|apply Qb.drew|apply Qb.set_1|apply Qb.set_2|refine Qb.far ?_ NB297_296.out _|refine Qb.far ?_ NB297_307.out _)|exact HI297.out));(case side2=>repeat (first|(with_reducible first|exact HB.out|apply Qc|apply Qa|apply Qd|refine Qe ?_ (Qb.ge HI297.out)|refine Qe ?_ GE296.out|refine Qe ?_ GE307.out)|exact HB.out));rintro e w17 ⟨rfl,hi,hb,hk⟩;refine ⟨_,rfl,?_⟩;replace BK296:=Aside0.mk (Qi.blk hk (g':=gb296) (o:= .cells #[.slice none 0 0] 26 (0,0)) (by (with_reducible repeat (first|refine Qg ?_ _|refine Qh ?_|refine Qf ?_ _));refine Qc6 ?_ NB296_307.out _;(with_reducible repeat (first|refine Qg ?_ _|refine Qh ?_|refine Qf ?_ _));exact BK296.out) NB296_297.out (by simp));replace HO306:=Aside0.mk (Kd.R_mono (Kd.R_keep (Qb.apart (show Qb w _ gb297 l0 t302 t303 from by repeat (first|(with_reducible first|exact HI297.out|apply Qb.alloc|apply Qb.drewN|apply Qb.drew|apply Qb.set_1|apply Qb.set_2|refine Qb.far ?_ NB297_296.out _|refine Qb.far ?_ NB297_307.out _)|exact HI297.out)) (by (with_reducible repeat (first|apply Kd.R_alloc|apply Kd.R_drewN|apply Kd.R_drew));exact (Kd.R_mono (Kd.R_far (p:=⟨gb307,0,none⟩) (Kd.R_types HO306.out BK307.out (by decide)) (fun _ hk=>hk.2) (.slice Ao13 t304.length co13)) (fun _ h_=>h_.1))) (by decide)) hk (fun _ h=>h.2)) (fun _ h=>h.1));replace BK307:=Aside0.mk (Qi.blk hk (g':=gb307) (o:= .cells #[.slice Ao13 t304.length co13] 26 (0,0)) (by (with_reducible repeat (first|refine Qg ?_ _|refine Qh ?_|refine Qf ?_ _));refine Qcn (cs:= #[.slice none 0 0]) ?_ 0 _ rfl;(with_reducible repeat (first|refine Qg ?_ _|refine Qh ?_|refine Qf ?_ _));exact BK307.out) NB307_297.out (by simp));replace HB:=Aside0.mk (hb);replace HI297:=Aside0.mk (hi);(try clear hb);(try clear hb2);(try clear hk);(try clear hi);have hcz18_0:w17.cell? ⟨gb307,0,none⟩=some (.slice Ao13 t304.length co13):=(Qx BK307.out 0).trans rfl;have hfz18_0:=Qp BK307.out 0))
  go_loopg [8,28] k (fun kq v8 v28 w'=> ∃ (x8_1:List Int) (x28_1:Int) (x298001_1:Int) (x298002_1:Int),v28= .int .i64 x28_1∧Aside0 (Qz.l0 kq (wrap64 (1+t308)) x8_1 (t304.length:Int) x28_1 l0 x298001_1 x298002_1 t304=some (r1,r2,r3))∧Aside0 (kq≤k)∧Aside0 (Kd.R (Kd.int .i64) 3 w' w.heap.size (fun k_=>some k_≠((.slice Ao13 t304.length co13):Value).ownBlock) v8 x8_1)∧Aside0 (Kd.R (Kd.int .i64) 3 w' w.heap.size (fun k_=>some k_≠(v8:Value).ownBlock) (.slice Ao13 t304.length co13) t304)∧Aside0 (w'.heap[gb296]? =some (.cells #[(.slice none 0 0)] 26 (0,0)))∧Aside0 (w'.heap[gb307]? =some (.cells #[(.slice Ao13 t304.length co13)] 26 (0,0)))∧Aside0 (Qb w w' gb297 l0 x298001_1 x298002_1)∧Aside0 (Below w.heap.size w w'))
  case atStart=>exact ⟨(([] :List Int)),(0),(t309),(t310),(by first|rfl|(simp;done)|(simp [*];done)),H',⟨Nat.le_refl _⟩,⟨by first|exact Kd.R_nil _ _ _ _ _|exact Kd.N_nil _ _ _ _ _|exact Kd.V_nil _ _ _ _ _|exact Kd.Q_nil _ _ _ _ _|exact Kd.S_nil _ _ _ _ _⟩,⟨by (with_reducible repeat (first|apply Kd.R_alloc|apply Kd.R_drewN|apply Kd.R_drew));exact Kd.R_mono HO306.out (fun _ hk=>(by simp [Value.ownBlock]))⟩,⟨by (with_reducible repeat (first|refine Qg ?_ _|refine Qh ?_|refine Qf ?_ _));exact BK296.out⟩,⟨by (with_reducible repeat (first|refine Qg ?_ _|refine Qh ?_|refine Qf ?_ _));exact BK307.out⟩,⟨by repeat (first|(with_reducible first|exact HI297.out|apply Qb.alloc|apply Qb.drewN|apply Qb.drew|apply Qb.set_1|apply Qb.set_2|refine Qb.far ?_ NB297_296.out _|refine Qb.far ?_ NB297_307.out _)|exact HI297.out)⟩,⟨by repeat (first|(with_reducible first|exact HB.out|apply Qc|apply Qa|apply Qd|refine Qe ?_ (Qb.ge HI297.out)|refine Qe ?_ GE296.out|refine Qe ?_ GE307.out)|exact HB.out)⟩⟩
  case round=>
   clear H'
   try clear c1
   try clear p2
   try clear c3
   try clear c5
   try clear p6
   try clear c7
   try clear c14
   try clear c15
   try clear hcz16_0
   try clear hcz18_0
   try clear hfz16_0
   try clear hfz18_0
   obtain ⟨x8_1,x28_1,x298001_1,x298002_1,rfl,HA,HK1,HO_8,HO_308000,BK296,BK307,HI297,HB⟩:=hrel;cases gk with
   |zero=>exact absurd HA.out (by simp [Qz.l0])
   |succ k1=>
    have H:=HA.out;clear HA;simp only [Qz.l0] at H
    by_cases c19:x28_1<(t304.length:Int)
    ·
     rw [if_pos c19] at H;have c19b0:decide (x28_1<(t304.length:Int))=true:=decide_eq_true c19;clear c19;have H':=Aside0.mk H;clear H;obtain ⟨Ao20,co20,eo20⟩:=Kd.R_slice HO_8.out;subst eo20;go_wp2
     go_loopg [10,33] k1 (fun kq v10 v33 w'=> ∃ (x10_2:Int) (x33_2:Int),v10= .int .i64 x10_2∧v33= .int .i64 x33_2∧Aside0 (Qz.l1 kq (wrap64 (1+t308)) x8_1 x28_1 x10_2 (t304.length:Int) x28_1 x8_1 (x8_1.length:Int) x33_2 l0 x298001_1 x298002_1 t304=some (r1,r2,r3))∧Aside0 (kq≤k1)∧Aside0 (Kd.R (Kd.int .i64) 3 w' w.heap.size (fun k_=>some k_≠((.slice Ao13 t304.length co13):Value).ownBlock) (.slice Ao20 x8_1.length co20) x8_1)∧Aside0 (Kd.R (Kd.int .i64) 3 w' w.heap.size (fun k_=>some k_≠((.slice Ao13 t304.length co13):Value).ownBlock) (.slice Ao20 x8_1.length co20) x8_1)∧Aside0 (Kd.R (Kd.int .i64) 3 w' w.heap.size (fun k_=>some k_≠((.slice Ao20 x8_1.length co20):Value).ownBlock∧some k_≠((.slice Ao20 x8_1.length co20):Value).ownBlock) (.slice Ao13 t304.length co13) t304)∧Aside0 (w'.heap[gb296]? =some (.cells #[(.slice none 0 0)] 26 (0,0)))∧Aside0 (w'.heap[gb307]? =some (.cells #[(.slice Ao13 t304.length co13)] 26 (0,0)))∧Aside0 (Qb w w' gb297 l0 x298001_1 x298002_1)∧Aside0 (Below w.heap.size w w'))
     case atStart=>exact ⟨(0),(0),(by first|rfl|(simp;done)|(simp [*];done)),(by first|rfl|(simp;done)|(simp [*];done)),H',⟨Nat.le_refl _⟩,⟨by (with_reducible repeat (first|apply Kd.R_alloc|apply Kd.R_drewN|apply Kd.R_drew));exact HO_8.out⟩,⟨by (with_reducible repeat (first|apply Kd.R_alloc|apply Kd.R_drewN|apply Kd.R_drew));exact HO_8.out⟩,⟨by (with_reducible repeat (first|apply Kd.R_alloc|apply Kd.R_drewN|apply Kd.R_drew));exact Kd.R_mono HO_308000.out (fun _ hk=>⟨hk,hk⟩)⟩,⟨by (with_reducible repeat (first|refine Qg ?_ _|refine Qh ?_|refine Qf ?_ _));exact BK296.out⟩,⟨by (with_reducible repeat (first|refine Qg ?_ _|refine Qh ?_|refine Qf ?_ _));exact BK307.out⟩,⟨by repeat (first|(with_reducible first|exact HI297.out|apply Qb.alloc|apply Qb.drewN|apply Qb.drew|apply Qb.set_1|apply Qb.set_2|refine Qb.far ?_ NB297_296.out _|refine Qb.far ?_ NB297_307.out _)|exact HI297.out)⟩,⟨by repeat (first|(with_reducible first|exact HB.out|apply Qc|apply Qa|apply Qd|refine Qe ?_ (Qb.ge HI297.out)|refine Qe ?_ GE296.out|refine Qe ?_ GE307.out)|exact HB.out)⟩⟩
     case round=>
      clear H'
      try clear c1
      try clear p2
      try clear c3
      try clear c5
      try clear p6
      try clear c7
      try clear c14
      try clear c15
      try clear c19
      try clear c19b0
      try clear hcz16_0
      try clear hcz18_0
      try clear hfz16_0
      try clear hfz18_0
      try clear p2
      try clear p6
      obtain ⟨x10_2,x33_2,rfl,rfl,HA,HK2,HO_8,HO_31,HO_308000,BK296,BK307,HI297,HB⟩:=hrel;cases gk with
      |zero=>exact absurd HA.out (by simp [Qz.l1])
      |succ k2=>
       have H:=HA.out;clear HA;simp only [Qz.l1] at H
       by_cases c21:x33_2<(x8_1.length:Int)
       ·
        rw [if_pos c21] at H;have c21b0:decide (x33_2<(x8_1.length:Int))=true:=decide_eq_true c21;clear c21
        by_cases c22:0≤x33_2
        ·
         rw [if_pos c22] at H;have c22b0:decide (0≤x33_2)=true:=decide_eq_true c22;clear c22
         by_cases c23:x33_2<(x8_1.length:Int)
         ·
          rw [if_pos c23] at H;have c23b0:decide (x33_2<(x8_1.length:Int))=true:=decide_eq_true c23;clear c23
          by_cases c24:0≤x28_1
          ·
           rw [if_pos c24] at H;have c24b0:decide (0≤x28_1)=true:=decide_eq_true c24;clear c24
           by_cases c25:x28_1<(t304.length:Int)
           ·
            rw [if_pos c25] at H;have c25b0:decide (x28_1<(t304.length:Int))=true:=decide_eq_true c25;clear c25;replace H:=Option.bind_eq_some_iff.mp H;obtain ⟨t319,A260,H⟩:=H;replace H:(if t319=true then ((Qcl.f x10_2 (rd x8_1 x33_2)).bind fun t320=>(Qz.l1 k2 (wrap64 (1+t308)) x8_1 x28_1 t320 (t304.length:Int) x28_1 x8_1 (x8_1.length:Int) (wrap64 (x33_2+1)) l0 x298001_1 x298002_1 t304)) else (Qz.l1 k2 (wrap64 (1+t308)) x8_1 x28_1 x10_2 (t304.length:Int) x28_1 x8_1 (x8_1.length:Int) (wrap64 (x33_2+1)) l0 x298001_1 x298002_1 t304))=some (r1,r2,r3):=H;have A26:=Aside0.mk A260;clear A260
            by_cases c27:t319=true
            ·
             subst c27;have H1:((Qcl.f x10_2 (rd x8_1 x33_2)).bind fun t320=>(Qz.l1 k2 (wrap64 (1+t308)) x8_1 x28_1 t320 (t304.length:Int) x28_1 x8_1 (x8_1.length:Int) (wrap64 (x33_2+1)) l0 x298001_1 x298002_1 t304))=some (r1,r2,r3):=by rw [if_pos rfl] at H;exact H
             clear H;have H:=H1;clear H1;replace H:=Option.bind_eq_some_iff.mp H;obtain ⟨t320,A280,H⟩:=H;replace H:(Qz.l1 k2 (wrap64 (1+t308)) x8_1 x28_1 t320 (t304.length:Int) x28_1 x8_1 (x8_1.length:Int) (wrap64 (x33_2+1)) l0 x298001_1 x298002_1 t304)=some (r1,r2,r3):=H;have A28:=Aside0.mk A280;clear A280;have H':=Aside0.mk H;clear H;have p317:0≤(x33_2:Int):=of_decide_eq_true (by first|(with_reducible assumption)|assumption);have q317:x33_2<(x8_1.length:Int):=of_decide_eq_true (by first|(with_reducible assumption)|assumption);obtain ⟨ad317,e317,hx317_0⟩:=Kd.at_int (Kd.R_reads' HO_31.out).2.2 x33_2 p317 q317;cases e317;replace p317:=eq_true p317;replace q317:=eq_true q317;have hnb29:=NB307_296.out;have hnc29:=NB296_307.out;have hnb30:=NB307_297.out;have hnc30:=NB297_307.out;have hcz31_0:wr.cell? ⟨gb307,0,none⟩=some (.slice Ao13 t304.length co13):=(Qx BK307.out 0).trans rfl;have hfz31_0:=Qp BK307.out 0;have p318:0≤(x28_1:Int):=of_decide_eq_true (by first|(with_reducible assumption)|assumption);have q318:x28_1<(t304.length:Int):=of_decide_eq_true (by first|(with_reducible assumption)|assumption);obtain ⟨ad318,e318,hx318_0⟩:=Kd.at_int (Kd.R_reads' HO_308000.out).2.2 x28_1 p318 q318;cases e318;replace p318:=eq_true p318;replace q318:=eq_true q318;go_wp2_with (first|((with_reducible refine Qk (f:=59) rfl ?_);refine Q6 (some 44) rfl rfl Try.func59 (by kernel_rfl) rfl #[.int .i64 (rd t304 x28_1), .int .i64 x33_2] rfl (by (try simp only [List.map_toArray,List.map_cons,List.map_nil]);first|done|rfl|(simp only [List.length_drop,List.length_take];rfl)) ?_;(with_reducible refine (Qcr.calls (rd t304 x28_1) x33_2 true _ A26.out).mono ?_);rintro e w' ⟨rfl,⟨nd,rfl⟩⟩;refine ⟨_,rfl,?_⟩)|((with_reducible refine Qk (f:=60) rfl ?_);refine Q6 (some 47) rfl rfl Try.func60 (by kernel_rfl) rfl #[.int .i64 x10_2, .int .i64 (rd x8_1 x33_2)] rfl (by (try simp only [List.map_toArray,List.map_cons,List.map_nil]);first|done|rfl|(simp only [List.length_drop,List.length_take];rfl)) ?_;(with_reducible refine (Qcl.calls x10_2 (rd x8_1 x33_2) t320 _ A28.out).mono ?_);rintro e w' ⟨rfl,⟨nd,rfl⟩⟩;refine ⟨_,rfl,?_⟩));go_roundg k2
             case measure=>have:=HK1.out;have:=HK2.out;omega
             case rel=>exact ⟨(t320),(wrap64 (x33_2+1)),(by first|rfl|(simp;done)|(simp [*];done)),(by first|rfl|(simp;done)|(simp [*];done)),H',⟨by have:=HK1.out;have:=HK2.out;omega⟩,⟨by (with_reducible repeat (first|apply Kd.R_alloc|apply Kd.R_drewN|apply Kd.R_drew));exact HO_8.out⟩,⟨by (with_reducible repeat (first|apply Kd.R_alloc|apply Kd.R_drewN|apply Kd.R_drew));exact HO_31.out⟩,⟨by (with_reducible repeat (first|apply Kd.R_alloc|apply Kd.R_drewN|apply Kd.R_drew));exact HO_308000.out⟩,⟨by (with_reducible repeat (first|refine Qg ?_ _|refine Qh ?_|refine Qf ?_ _));exact BK296.out⟩,⟨by (with_reducible repeat (first|refine Qg ?_ _|refine Qh ?_|refine Qf ?_ _));exact BK307.out⟩,⟨by repeat (first|(with_reducible first|exact HI297.out|apply Qb.alloc|apply Qb.drewN|apply Qb.drew|apply Qb.set_1|apply Qb.set_2|refine Qb.far ?_ NB297_296.out _|refine Qb.far ?_ NB297_307.out _)|exact HI297.out)⟩,⟨by repeat (first|(with_reducible first|exact HB.out|apply Qc|apply Qa|apply Qd|refine Qe ?_ (Qb.ge HI297.out)|refine Qe ?_ GE296.out|refine Qe ?_ GE307.out)|exact HB.out)⟩⟩
            ·
             replace c27:=Bool.eq_false_iff.mpr c27;subst c27;have H1:(Qz.l1 k2 (wrap64 (1+t308)) x8_1 x28_1 x10_2 (t304.length:Int) x28_1 x8_1 (x8_1.length:Int) (wrap64 (x33_2+1)) l0 x298001_1 x298002_1 t304)=some (r1,r2,r3):=by rw [if_neg (show ¬ (false=true) by decide)] at H;exact H
             clear H;have H:=H1;clear H1;have H':=Aside0.mk H;clear H;have p317:0≤(x33_2:Int):=of_decide_eq_true (by first|(with_reducible assumption)|assumption);have q317:x33_2<(x8_1.length:Int):=of_decide_eq_true (by first|(with_reducible assumption)|assumption);obtain ⟨ad317,e317,hx317_0⟩:=Kd.at_int (Kd.R_reads' HO_31.out).2.2 x33_2 p317 q317;cases e317;replace p317:=eq_true p317;replace q317:=eq_true q317;have hnb32:=NB307_296.out;have hnc32:=NB296_307.out;have hnb33:=NB307_297.out;have hnc33:=NB297_307.out;have hcz34_0:wr.cell? ⟨gb307,0,none⟩=some (.slice Ao13 t304.length co13):=(Qx BK307.out 0).trans rfl;have hfz34_0:=Qp BK307.out 0;have p318:0≤(x28_1:Int):=of_decide_eq_true (by first|(with_reducible assumption)|assumption);have q318:x28_1<(t304.length:Int):=of_decide_eq_true (by first|(with_reducible assumption)|assumption);obtain ⟨ad318,e318,hx318_0⟩:=Kd.at_int (Kd.R_reads' HO_308000.out).2.2 x28_1 p318 q318;cases e318;replace p318:=eq_true p318;replace q318:=eq_true q318;go_wp2_with (first|((with_reducible refine Qk (f:=59) rfl ?_);refine Q6 (some 44) rfl rfl Try.func59 (by kernel_rfl) rfl #[.int .i64 (rd t304 x28_1), .int .i64 x33_2] rfl (by (try simp only [List.map_toArray,List.map_cons,List.map_nil]);first|done|rfl|(simp only [List.length_drop,List.length_take];rfl)) ?_;(with_reducible refine (Qcr.calls (rd t304 x28_1) x33_2 false _ A26.out).mono ?_);rintro e w' ⟨rfl,⟨nd,rfl⟩⟩;refine ⟨_,rfl,?_⟩));go_roundg k2
             case measure=>have:=HK1.out;have:=HK2.out;omega
             case rel=>exact ⟨(x10_2),(wrap64 (x33_2+1)),(by first|rfl|(simp;done)|(simp [*];done)),(by first|rfl|(simp;done)|(simp [*];done)),H',⟨by have:=HK1.out;have:=HK2.out;omega⟩,⟨by (with_reducible repeat (first|apply Kd.R_alloc|apply Kd.R_drewN|apply Kd.R_drew));exact HO_8.out⟩,⟨by (with_reducible repeat (first|apply Kd.R_alloc|apply Kd.R_drewN|apply Kd.R_drew));exact HO_31.out⟩,⟨by (with_reducible repeat (first|apply Kd.R_alloc|apply Kd.R_drewN|apply Kd.R_drew));exact HO_308000.out⟩,⟨by (with_reducible repeat (first|refine Qg ?_ _|refine Qh ?_|refine Qf ?_ _));exact BK296.out⟩,⟨by (with_reducible repeat (first|refine Qg ?_ _|refine Qh ?_|refine Qf ?_ _));exact BK307.out⟩,⟨by repeat (first|(with_reducible first|exact HI297.out|apply Qb.alloc|apply Qb.drewN|apply Qb.drew|apply Qb.set_1|apply Qb.set_2|refine Qb.far ?_ NB297_296.out _|refine Qb.far ?_ NB297_307.out _)|exact HI297.out)⟩,⟨by repeat (first|(with_reducible first|exact HB.out|apply Qc|apply Qa|apply Qd|refine Qe ?_ (Qb.ge HI297.out)|refine Qe ?_ GE296.out|refine Qe ?_ GE307.out)|exact HB.out)⟩⟩
           ·
            rw [if_neg c25] at H;exact absurd H (by simp)
          ·
           rw [if_neg c24] at H;exact absurd H (by simp)
         ·
          rw [if_neg c23] at H;exact absurd H (by simp)
        ·
         rw [if_neg c22] at H;exact absurd H (by simp)
       ·
        rw [if_neg c21] at H;have c21b0:decide (x33_2<(x8_1.length:Int))=false:=decide_eq_false c21;clear c21;replace H:=Option.bind_eq_some_iff.mp H;obtain ⟨⟨t311,t312,t313⟩,A350,H⟩:=H;replace H:(if x8_1.length<17592186044416 then (Qz.l0 k2 (wrap64 (1+t308)) (x8_1++ [wrap64 (x10_2+t311)]) (t304.length:Int) (wrap64 (x28_1+1)) l0 t312 t313 t304) else (none))=some (r1,r2,r3):=H;have A35:=Aside0.mk A350;clear A350
        by_cases c36:x8_1.length<17592186044416
        ·
         rw [if_pos c36] at H;have LMc36:=Aside0.mk c36;clear c36;obtain ⟨y314,hy314⟩: ∃ y_:List Int,y_=(x8_1++ [wrap64 (x10_2+t311)]):=⟨_,rfl⟩
         replace H:(Qz.l0 k2 (wrap64 (1+t308)) y314 (t304.length:Int) (wrap64 (x28_1+1)) l0 t312 t313 t304)=some (r1,r2,r3):=by first|(rw [hy314];with_reducible exact H)|(have H2_:=(Option.bind_some _ _).symm.trans H;rw [hy314];with_reducible exact H2_)|(have H2_:=(Option.bind_some _ _).symm.trans H;with_reducible exact H2_)|with_reducible exact H|(rw [hy314];exact H)|exact H
         have Ny314:=Aside0.mk hy314;clear hy314;have H':=Aside0.mk H;clear H;go_wp2_with (first|((with_reducible refine Qk (f:=58) rfl ?_);refine Q6 (some 56) rfl rfl Try.func58 (by kernel_rfl) rfl #[.pointer (some ⟨gb297,0,none⟩), .int .i64 (wrap64 ((wrap64 ((wrap64 (1+t308)) - x10_2))+1))] rfl (by (try simp only [List.map_toArray,List.map_cons,List.map_nil]);first|done|rfl|(simp only [List.length_drop,List.length_take];rfl)) ?_;(with_reducible refine (Qs.calls gb297 l0 x298001_1 x298002_1 (wrap64 ((wrap64 ((wrap64 (1+t308)) - x10_2))+1)) t311 t312 t313 w _ ?side1 ?side2 A35.out).mono ?_);(case side1=>repeat (first|(with_reducible first|exact HI297.out|apply Qb.alloc|apply Qb.drewN|apply Qb.drew|apply Qb.set_1|apply Qb.set_2|refine Qb.far ?_ NB297_296.out _|refine Qb.far ?_ NB297_307.out _)|exact HI297.out));(case side2=>repeat (first|(with_reducible first|exact HB.out|apply Qc|apply Qa|apply Qd|refine Qe ?_ (Qb.ge HI297.out)|refine Qe ?_ GE296.out|refine Qe ?_ GE307.out)|exact HB.out));rintro e w37 ⟨rfl,hi,hb,hk⟩;refine ⟨_,rfl,?_⟩;replace HO_8:=Aside0.mk (Kd.R_mono (Kd.R_keep (Qb.apart (show Qb w _ gb297 l0 x298001_1 x298002_1 from by repeat (first|(with_reducible first|exact HI297.out|apply Qb.alloc|apply Qb.drewN|apply Qb.drew|apply Qb.set_1|apply Qb.set_2|refine Qb.far ?_ NB297_296.out _|refine Qb.far ?_ NB297_307.out _)|exact HI297.out)) (by (with_reducible repeat (first|apply Kd.R_alloc|apply Kd.R_drewN|apply Kd.R_drew));exact HO_8.out) (by decide)) hk (fun _ h=>h.2)) (fun _ h=>h.1));replace HO_31:=Aside0.mk (Kd.R_mono (Kd.R_keep (Qb.apart (show Qb w _ gb297 l0 x298001_1 x298002_1 from by repeat (first|(with_reducible first|exact HI297.out|apply Qb.alloc|apply Qb.drewN|apply Qb.drew|apply Qb.set_1|apply Qb.set_2|refine Qb.far ?_ NB297_296.out _|refine Qb.far ?_ NB297_307.out _)|exact HI297.out)) (by (with_reducible repeat (first|apply Kd.R_alloc|apply Kd.R_drewN|apply Kd.R_drew));exact HO_31.out) (by decide)) hk (fun _ h=>h.2)) (fun _ h=>h.1));replace HO_308000:=Aside0.mk (Kd.R_mono (Kd.R_keep (Qb.apart (show Qb w _ gb297 l0 x298001_1 x298002_1 from by repeat (first|(with_reducible first|exact HI297.out|apply Qb.alloc|apply Qb.drewN|apply Qb.drew|apply Qb.set_1|apply Qb.set_2|refine Qb.far ?_ NB297_296.out _|refine Qb.far ?_ NB297_307.out _)|exact HI297.out)) (by (with_reducible repeat (first|apply Kd.R_alloc|apply Kd.R_drewN|apply Kd.R_drew));exact HO_308000.out) (by decide)) hk (fun _ h=>h.2)) (fun _ h=>h.1));replace BK296:=Aside0.mk (Qi.blk hk (g':=gb296) (o:= .cells #[.slice none 0 0] 26 (0,0)) (by (with_reducible repeat (first|refine Qg ?_ _|refine Qh ?_|refine Qf ?_ _));exact BK296.out) NB296_297.out (by simp));replace BK307:=Aside0.mk (Qi.blk hk (g':=gb307) (o:= .cells #[.slice Ao13 t304.length co13] 26 (0,0)) (by (with_reducible repeat (first|refine Qg ?_ _|refine Qh ?_|refine Qf ?_ _));exact BK307.out) NB307_297.out (by simp));replace HB:=Aside0.mk (hb);replace HI297:=Aside0.mk (hi);(try clear hb);(try clear hb2);(try clear hk);(try clear hi))|((with_reducible refine Qcv (b:= .append) (xs:= #[.tmp 49, .tmp 58]) rfl ?_);at_builtin;refine Kd.R_append (Kd.int .i64) (w0:=w) w.heap.size rfl (.tmp 49) (.tmp 58) 24 3 (.int .i64 0) 8 rfl Try.underlying24 Qec rfl (by decide) (by omega) (.slice Ao20 x8_1.length co20) x8_1 (wrap64 (x10_2+t311)) [.int .i64 (wrap64 (x10_2+t311))] (fun k_=>some k_≠(.slice Ao13 t304.length co13:Value).ownBlock) (fun _=>False) rfl rfl ?aP (fun _ hk=>hk.elim) ?aF ?aO ?aB ?aS ?aL ?_;(case aP=>exact rfl);(case aB=>exact (by repeat (first|(with_reducible first|exact HB.out|apply Qc|apply Qa|apply Qd|refine Qe ?_ (Qb.ge HI297.out)|refine Qe ?_ GE296.out|refine Qe ?_ GE307.out)|exact HB.out)));(case aF=>exact (fun k_ hk=>Kd.fresh' (Kd.R_lt (by (with_reducible repeat (first|apply Kd.R_alloc|apply Kd.R_drewN|apply Kd.R_drew));exact HO_308000.out)) k_ hk));(case aO=>exact (by (with_reducible repeat (first|apply Kd.R_alloc|apply Kd.R_drewN|apply Kd.R_drew));exact HO_8.out));(case aS=>exact (Qq (by repeat (first|(with_reducible first|exact HB.out|apply Qc|apply Qa|apply Qd|refine Qe ?_ (Qb.ge HI297.out)|refine Qe ?_ GE296.out|refine Qe ?_ GE307.out)|exact HB.out))));(case aL=>have:=LMc36.out;omega);intro v315 w38 ho hb hg hat;rw [←Ny314.out] at ho;replace HO_308000:=Aside0.mk (Kd.R_after (ok:=(fun _=>True)) (by (with_reducible repeat (first|apply Kd.R_alloc|apply Kd.R_drewN|apply Kd.R_drew));exact Kd.R_mono HO_308000.out (fun _ hk=>⟨trivial,hk.1⟩)) hg hat);replace BK296:=Aside0.mk (Qcx (g:=gb296) (o:= .cells #[.slice none 0 0] 26 (0,0)) (by (with_reducible repeat (first|refine Qg ?_ _|refine Qh ?_|refine Qf ?_ _));exact BK296.out) hg (Kd.R_ne HO_8.out BK296.out (by decide)));replace BK307:=Aside0.mk (Qcx (g:=gb307) (o:= .cells #[.slice Ao13 t304.length co13] 26 (0,0)) (by (with_reducible repeat (first|refine Qg ?_ _|refine Qh ?_|refine Qf ?_ _));exact BK307.out) hg (Kd.R_ne HO_8.out BK307.out (by decide)));replace HI297:=Aside0.mk (Qb.grown (by repeat (first|(with_reducible first|exact HI297.out|apply Qb.alloc|apply Qb.drewN|apply Qb.drew|apply Qb.set_1|apply Qb.set_2|refine Qb.far ?_ NB297_296.out _|refine Qb.far ?_ NB297_307.out _)|exact HI297.out)) hg (Qb.own_ne HI297.out HO_8.out (by decide)));replace HB:=Aside0.mk (hb);have HO316:=Aside0.mk (ho);clear HO_8;clear ho hb hg hat))
         go_roundg k2
         case measure=>have:=HK1.out;have:=HK2.out;omega
         case rel=>exact ⟨(y314),(wrap64 (x28_1+1)),(t312),(t313),(by first|rfl|(simp;done)|(simp [*];done)),H',⟨by have:=HK1.out;have:=HK2.out;omega⟩,⟨by (with_reducible repeat (first|apply Kd.R_alloc|apply Kd.R_drewN|apply Kd.R_drew));exact HO316.out⟩,⟨by (with_reducible repeat (first|apply Kd.R_alloc|apply Kd.R_drewN|apply Kd.R_drew));exact Kd.R_mono HO_308000.out (fun _ hk=>hk.2)⟩,⟨by (with_reducible repeat (first|refine Qg ?_ _|refine Qh ?_|refine Qf ?_ _));exact BK296.out⟩,⟨by (with_reducible repeat (first|refine Qg ?_ _|refine Qh ?_|refine Qf ?_ _));exact BK307.out⟩,⟨by repeat (first|(with_reducible first|exact HI297.out|apply Qb.alloc|apply Qb.drewN|apply Qb.drew|apply Qb.set_1|apply Qb.set_2|refine Qb.far ?_ NB297_296.out _|refine Qb.far ?_ NB297_307.out _)|exact HI297.out)⟩,⟨by repeat (first|(with_reducible first|exact HB.out|apply Qc|apply Qa|apply Qd|refine Qe ?_ (Qb.ge HI297.out)|refine Qe ?_ GE296.out|refine Qe ?_ GE307.out)|exact HB.out)⟩⟩
        ·
         rw [if_neg c36] at H;exact absurd H (by simp)
    ·
     rw [if_neg c19] at H;have c19b0:decide (x28_1<(t304.length:Int))=false:=decide_eq_false c19;clear c19;simp only [Option.some.injEq,Prod.mk.injEq] at H;obtain ⟨rfl,rfl,rfl⟩:=H;have hnb39:=NB307_296.out;have hnc39:=NB296_307.out;have hnb40:=NB307_297.out;have hnc40:=NB297_307.out;have hcz41_0:wr.cell? ⟨gb307,0,none⟩=some (.slice Ao13 t304.length co13):=(Qx BK307.out 0).trans rfl;have hfz41_0:=Qp BK307.out 0;have hnb42:=NB296_297.out;have hnc42:=NB297_296.out;have hcz43_0:wr.cell? ⟨gb296,0,none⟩=some (.slice none 0 0):=(Qx BK296.out 0).trans rfl;have hfz43_0:=Qp BK296.out 0;go_wp2;refine bodyPost_ret (Qds rfl _ _ gb296 26 #[.slice Ao13 t304.length co13] (0,0) _ rfl (by (with_reducible repeat (first|refine Qg ?_ _|refine Qh ?_|refine Qf ?_ _));refine Qcn (cs:= #[.slice none 0 0]) ?_ 0 _ rfl;(with_reducible repeat (first|refine Qg ?_ _|refine Qh ?_|refine Qf ?_ _));exact BK296.out) Try.underlying26 rfl (by kernel_rfl)) rfl ?_;exact ⟨_,_,by first|rfl|(simp [Qm,Ql] <;>rfl)|(simp [*,Qm,Ql] <;>rfl),by (with_reducible repeat (first|apply Kd.R_alloc|apply Kd.R_drewN|apply Kd.R_drew));exact Kd.R_mono (Kd.R_far (p:=⟨gb296,0,none⟩) (Kd.R_types HO_308000.out BK296.out (by decide)) (fun _ hk=>hk.2) (.slice Ao13 t304.length co13)) (fun _ hk=>hk.1),by (with_reducible repeat (first|apply Kd.R_alloc|apply Kd.R_drewN|apply Kd.R_drew));exact Kd.R_mono (Kd.R_far (p:=⟨gb296,0,none⟩) (Kd.R_types HO_8.out BK296.out (by decide)) (fun _ hk=>hk.2) (.slice Ao13 t304.length co13)) (fun _ hk=>hk.1),by repeat (first|(with_reducible first|exact HB.out|apply Qc|apply Qa|apply Qd|refine Qe ?_ (Qb.ge HI297.out)|refine Qe ?_ GE296.out|refine Qe ?_ GE307.out)|exact HB.out)⟩
 ·
  replace c3:=Bool.eq_false_iff.mpr c3;subst c3;have H1:((Q0.f k l0 t299 t300 5).bind fun bt321=>(some (bt321.1,bt321.2.1,bt321.2.2.1)))=some (r1,r2,r3):=by rw [if_neg (show ¬ (false=true) by decide)] at H;exact H
  clear H;have H:=H1;clear H1;replace H:=Option.bind_eq_some_iff.mp H;obtain ⟨⟨t321,t324,t327,t328,t329⟩,A440,H⟩:=H;replace H:(some (t321,t324,t327))=some (r1,r2,r3):=H;have A44:=Aside0.mk A440;clear A440;simp only [Option.some.injEq,Prod.mk.injEq] at H;obtain ⟨rfl,rfl,rfl⟩:=H;go_enter Try.func7,Try.ntmps7;go_wp2_with (first|((with_reducible refine Qbb (N:=2) rfl ?_);refine Qbg ?hg (N:=2) ?hd (cs:= #[.slice none 0 0]) (t:=26) ?hr ?_;(case hd=>rfl);(case hg=>rfl);(case hr=>first|(go_simp;done)|(go_simp;rfl));intro gb296 hg w45 hbox hb;have BK296:=Aside0.mk (hbox);have GW296:=Aside0.mk ((by rw [hg];exact (Qq (by repeat (first|(with_reducible first|exact HB.out|apply Qc|apply Qa|apply Qd)|exact HB.out))):w.heap.size≤gb296));have GE296:=GW296;replace HB:=Aside0.mk (Qj (by repeat (first|(with_reducible first|exact HB.out|apply Qc|apply Qa|apply Qd)|exact HB.out)) hb);clear hb hbox hg)|((with_reducible refine Qbb (N:=15) rfl ?_);refine Qbg ?hg (N:=15) ?hd (cs:= #[.slice A0 l0.length c0, .int .i64 0, .int .u64 0]) (t:=67) ?hr ?_;(case hd=>rfl);(case hg=>rfl);(case hr=>first|(go_simp;done)|(go_simp;rfl));intro gb297 hg w46 hbox hb;have HI297:=Aside0.mk ((⟨_,_,hbox,(by rw [hg];exact (Qq (by repeat (first|(with_reducible first|exact HB.out|apply Qc|apply Qa|apply Qd|refine Qe ?_ GE296.out)|exact HB.out))):w.heap.size≤gb297),HR0.out⟩:Qb w _ gb297 l0 0 0));have GW297:=Aside0.mk ((by rw [hg];exact (Qq (by repeat (first|(with_reducible first|exact HB.out|apply Qc|apply Qa|apply Qd|refine Qe ?_ GE296.out)|exact HB.out))):w.heap.size≤gb297));have GE297:=GW297;replace HB:=Aside0.mk (Qj (by repeat (first|(with_reducible first|exact HB.out|apply Qc|apply Qa|apply Qd|refine Qe ?_ GE296.out)|exact HB.out)) hb);have NB296_297:=Aside0.mk ((by rw [hg];exact Nat.ne_of_lt (Qcu (g:=gb296) (o:= .cells #[.slice none 0 0] 26 (0,0)) (by (with_reducible repeat (first|refine Qg ?_ _|refine Qh ?_|refine Qf ?_ _));exact BK296.out)):gb296≠gb297));have NB297_296:=Aside0.mk ((by rw [hg];exact Nat.ne_of_gt (Qcu (g:=gb296) (o:= .cells #[.slice none 0 0] 26 (0,0)) (by (with_reducible repeat (first|refine Qg ?_ _|refine Qh ?_|refine Qf ?_ _));exact BK296.out)):gb297≠gb296));replace BK296:=Aside0.mk (Qu (g:=gb296) (o:= .cells #[.slice none 0 0] 26 (0,0)) (by (with_reducible repeat (first|refine Qg ?_ _|refine Qh ?_|refine Qf ?_ _));exact BK296.out) hb);clear hb hbox hg)|((with_reducible refine Qk (f:=56) rfl ?_);refine Q6 (some 17) rfl rfl Try.func56 (by kernel_rfl) rfl #[.pointer (some ⟨gb297,0,none⟩), .int .i64 2] rfl (by (try simp only [List.map_toArray,List.map_cons,List.map_nil]);first|done|rfl|(simp only [List.length_drop,List.length_take];rfl)) ?_;(with_reducible refine (Qdl.calls gb297 l0 0 0 2 false t299 t300 w _ ?side1 ?side2 A2.out).mono ?_);(case side1=>repeat (first|(with_reducible first|exact HI297.out|apply Qb.alloc|apply Qb.drewN|apply Qb.drew|apply Qb.set_1|apply Qb.set_2|refine Qb.far ?_ NB297_296.out _)|exact HI297.out));(case side2=>repeat (first|(with_reducible first|exact HB.out|apply Qc|apply Qa|apply Qd|refine Qe ?_ (Qb.ge HI297.out)|refine Qe ?_ GE296.out)|exact HB.out));rintro e w47 ⟨rfl,hi,hb,hk⟩;refine ⟨_,rfl,?_⟩;replace BK296:=Aside0.mk (Qi.blk hk (g':=gb296) (o:= .cells #[.slice none 0 0] 26 (0,0)) (by (with_reducible repeat (first|refine Qg ?_ _|refine Qh ?_|refine Qf ?_ _));exact BK296.out) NB296_297.out (by simp));replace HB:=Aside0.mk (hb);replace HI297:=Aside0.mk (hi);(try clear hb);(try clear hb2);(try clear hk);(try clear hi))|((with_reducible refine Qk (f:=61) rfl ?_);refine Q6 (some 65) rfl rfl Try.func61 (by kernel_rfl) rfl #[.pointer (some ⟨gb297,0,none⟩), .int .i64 5] rfl (by (try simp only [List.map_toArray,List.map_cons,List.map_nil]);first|done|rfl|(simp only [List.length_drop,List.length_take];rfl)) ?_;(with_reducible refine (Q0.calls k gb297 l0 t299 t300 5 t321 t324 t327 t328 t329 w _ ?side1 ?side2 A44.out).mono ?_);(case side1=>repeat (first|(with_reducible first|exact HI297.out|apply Qb.alloc|apply Qb.drewN|apply Qb.drew|apply Qb.set_1|apply Qb.set_2|refine Qb.far ?_ NB297_296.out _)|exact HI297.out));(case side2=>repeat (first|(with_reducible first|exact HB.out|apply Qc|apply Qa|apply Qd|refine Qe ?_ (Qb.ge HI297.out)|refine Qe ?_ GE296.out)|exact HB.out));rintro e w48 ⟨v322,v325,rfl,ho0,ho1,hi,hb,hk⟩;refine ⟨_,rfl,?_⟩;replace BK296:=Aside0.mk (Qi.blk hk (g':=gb296) (o:= .cells #[.slice none 0 0] 26 (0,0)) (by (with_reducible repeat (first|refine Qg ?_ _|refine Qh ?_|refine Qf ?_ _));exact BK296.out) NB296_297.out (by simp));have HO323:=Aside0.mk (Kd.R_lower ho0 (Qq (by repeat (first|(with_reducible first|exact HB.out|apply Qc|apply Qa|apply Qd|refine Qe ?_ (Qb.ge HI297.out)|refine Qe ?_ GE296.out)|exact HB.out))));have HO326:=Aside0.mk (Kd.R_lower ho1 (Qq (by repeat (first|(with_reducible first|exact HB.out|apply Qc|apply Qa|apply Qd|refine Qe ?_ (Qb.ge HI297.out)|refine Qe ?_ GE296.out)|exact HB.out))));replace HB:=Aside0.mk (hb);replace HI297:=Aside0.mk (hi);(try clear hb);(try clear hb2);(try clear hk);(try clear hi);(try clear ho0);(try clear ho1);obtain ⟨Ao49,co49,eo49⟩:=Kd.R_slice HO323.out;subst eo49;have hnb50:=NB296_297.out;have hnc50:=NB297_296.out;have hcz51_0:w48.cell? ⟨gb296,0,none⟩=some (.slice none 0 0):=(Qx BK296.out 0).trans rfl;have hfz51_0:=Qp BK296.out 0))
  refine bodyPost_ret (Qds rfl _ _ gb296 26 #[.slice Ao49 t321.length co49] (0,0) _ rfl (by (with_reducible repeat (first|refine Qg ?_ _|refine Qh ?_|refine Qf ?_ _));refine Qcn (cs:= #[.slice none 0 0]) ?_ 0 _ rfl;(with_reducible repeat (first|refine Qg ?_ _|refine Qh ?_|refine Qf ?_ _));exact BK296.out) Try.underlying26 rfl (by kernel_rfl)) rfl ?_;exact ⟨_,_,by first|rfl|(simp [Qm,Ql] <;>rfl)|(simp [*,Qm,Ql] <;>rfl),by (with_reducible repeat (first|apply Kd.R_alloc|apply Kd.R_drewN|apply Kd.R_drew));exact Kd.R_mono (Kd.R_far (p:=⟨gb296,0,none⟩) (Kd.R_types HO323.out BK296.out (by decide)) (fun _ hk=>hk.2) (.slice Ao49 t321.length co49)) (fun _ hk=>hk.1),by (with_reducible repeat (first|apply Kd.R_alloc|apply Kd.R_drewN|apply Kd.R_drew));exact Kd.R_mono (Kd.R_far (p:=⟨gb296,0,none⟩) (Kd.R_types HO326.out BK296.out (by decide)) (fun _ hk=>hk.2) (.slice Ao49 t321.length co49)) (fun _ hk=>hk.1),by repeat (first|(with_reducible first|exact HB.out|apply Qc|apply Qa|apply Qd|refine Qe ?_ (Qb.ge HI297.out)|refine Qe ?_ GE296.out)|exact HB.out)⟩
def Qch.f (l0_0 : List Int) : Option (Int) := some (l0_0.length : Int)
set_option maxHeartbeats 8000000 in
set_option maxRecDepth 100000 in
theorem Qch.calls (A0_0 : Option Addr) (c0_0 : Nat) (l0_0 : List Int) (r : Int) (w : World) (hr0_0 : Kd.C (Kd.int .i64) w A0_0 l0_0.length l0_0) (hc0_0 : l0_0.length ≤ c0_0) (h : Qch.f l0_0 = some r) :
 Calls Try.prog 65 #[.agg #[.slice A0_0 l0_0.length c0_0]] w fun e w'=>e= .returned (.int .i64 r)∧Below w.heap.size w w':=by
 have hu26:=Try.underlying26;have HR0_0:=Aside0.mk hr0_0;have HC0_0:=Aside0.mk hc0_0;clear hr0_0 hc0_0;have HB:=Aside0.mk (Below.refl w.heap.size w);have H:(some (l0_0.length:Int))=some r:=h;clear h;obtain rfl:=Option.some.inj H;go_enter Try.func65,Try.ntmps65;go_wp2_with (first|((with_reducible refine Qbb (N:=1) rfl ?_);refine Qbg ?hg (N:=1) ?hd (cs:= #[.slice A0_0 l0_0.length c0_0]) (t:=26) ?hr ?_;(case hd=>rfl);(case hg=>rfl);(case hr=>first|(go_simp;done)|(go_simp;rfl));intro gb330 hg w2 hbox hb;have BK330:=Aside0.mk (hbox);have GW330:=Aside0.mk ((by rw [hg];exact (Qq (by repeat (first|(with_reducible first|exact HB.out|apply Qc|apply Qa|apply Qd)|exact HB.out))):w.heap.size≤gb330));have GE330:=GW330;replace HB:=Aside0.mk (Qj (by repeat (first|(with_reducible first|exact HB.out|apply Qc|apply Qa|apply Qd)|exact HB.out)) hb);clear hb hbox hg;have hcz3_0:w2.cell? ⟨gb330,0,none⟩=some (.slice A0_0 l0_0.length c0_0):=(Qx BK330.out 0).trans rfl;have hfz3_0:=Qp BK330.out 0))
 go_ret
 exact ⟨by first|rfl|(simp [Qm,Ql] <;>rfl)|(simp [*,Qm,Ql] <;>rfl),by repeat (first|(with_reducible first|exact HB.out|apply Qc|apply Qa|apply Qd|refine Qe ?_ GE330.out)|exact HB.out)⟩
def Qcp.f (a0 : Int) (a1 : Int) (a2 : Int) : Option (Bool) := if a1 ≤ a0 then (some (decide (a0 ≤ a2))) else (some false)
set_option maxHeartbeats 8000000 in
set_option maxRecDepth 100000 in
theorem Qcp.calls (a0 : Int) (a1 : Int) (a2 : Int) (r : Bool) (w : World) (h : Qcp.f a0 a1 a2 = some r) :
 Calls Try.prog 81 #[.int .i64 a0, .int .i64 a1, .int .i64 a2] w fun e w'=>e= .returned (.bool r)∧Drawn0 w w':=by
 have H:(if a1≤a0 then (some (decide (a0≤a2))) else (some false))=some r:=h;clear h
 by_cases c4:a1≤a0
 ·
  rw [if_pos c4] at H;have c4b0:decide (a1≤a0)=true:=decide_eq_true c4;clear c4;obtain rfl:=Option.some.inj H;go_enter Try.func81,Try.ntmps81;go_wp2
  go_ret
  exact ⟨by first|rfl|(simp;done)|(simp [*];done),by repeat (first|exact Drawn0.refl _|apply Drawn0.step)⟩
 ·
  rw [if_neg c4] at H;have c4b0:decide (a1≤a0)=false:=decide_eq_false c4;clear c4;obtain rfl:=Option.some.inj H;go_enter Try.func81,Try.ntmps81;go_wp2
  go_ret
  exact ⟨by first|rfl|(simp;done)|(simp [*];done),by repeat (first|exact Drawn0.refl _|apply Drawn0.step)⟩
def Qdi.f (a0 : Int) (a1 : Int) : Option (Bool) := if 0 ≤ a1 then (some ((Go.bits .and .i64 (shr .i64 a0 a1) 1) == 1)) else (none)
set_option maxHeartbeats 8000000 in
set_option maxRecDepth 100000 in
theorem Qdi.calls (a0 : Int) (a1 : Int) (r : Bool) (w : World) (h : Qdi.f a0 a1 = some r) :
 Calls Try.prog 104 #[.int .i64 a0, .int .i64 a1] w fun e w'=>e= .returned (.bool r)∧Drawn0 w w':=by
 have H:(if 0≤a1 then (some ((Go.bits .and .i64 (shr .i64 a0 a1) 1)==1)) else (none))=some r:=h;clear h
 by_cases c3:0≤a1
 ·
  rw [if_pos c3] at H;have c3b0:=eq_true c3;have c3b1:decide (0≤a1)=true:=decide_eq_true c3;clear c3;obtain ⟨ji4,hji4⟩: ∃ j_:Int,(shr .i64 a0 a1)=j_:=⟨_,rfl⟩
  replace H:(some ((Go.bits .and .i64 (ji4) 1)==1))=some r:=by first|(rw [hji4] at H;exact H)|(simp only [hji4] at H ⊢;exact H)
  have hji4_:(a0 / 2 ^ min a1.toNat 64)=ji4:=hji4;have hji4z:a1≤64→(a0 / 2 ^ a1.toNat)=ji4:=Qgr hji4;obtain rfl:=Option.some.inj H;go_enter Try.func104,Try.ntmps104;go_wp2
  go_ret
  exact ⟨by first|rfl|(simp;done)|(simp only [←hji4] <;>(first|rfl|simp))|(simp [*];done),by repeat (first|exact Drawn0.refl _|apply Drawn0.step)⟩
 ·
  rw [if_neg c3] at H;exact absurd H (by simp)
def Qbv.l0 : Nat → Int → List Int → Int → Option (List Int)
 |0,_,_,_=>none
 |k+1,x0,x3,x6=>if x6<10 then ((Qdi.f x0 x6).bind fun t334=>(if t334=true then (if x3.length<17592186044416 then (Qbv.l0 k x0 (x3++ [x6]) (wrap64 (x6+1))) else (none)) else (Qbv.l0 k x0 x3 (wrap64 (x6+1))))) else (some x3)
def Qbv.f (k : Nat) (a0 : Int) : Option (List Int) := Qbv.l0 k a0 (([] : List Int)) 0
theorem Qbv.mono_l : ∀ k, (∀ y0 y1 y2, LeO (Qbv.l0 k y0 y1 y2) (Qbv.l0 (k + 1) y0 y1 y2))
 |0=>fun _ _ _ r h=>by simp [Qbv.l0] at h
 |k+1=>by
  have ih0:=Qbv.mono_l k
  ·
   intro y0 y1 y2;unfold Qbv.l0
   repeat' first
   |(with_reducible exact ih0 _ _ _)
   |(with_reducible exact LeO.refl _)
   |(with_reducible exact LeO.none _)
   |(with_reducible refine LeO.ite ?_ ?_)
   |(with_reducible refine LeO.bind ?_ (fun _=> ?_))
   |exact ih0 _ _ _
   |exact LeO.none _
   |refine LeO.ite ?_ ?_
   |refine LeO.bind ?_ (fun _=> ?_)
theorem Qbv.mono : ∀ a0 k, LeO (Qbv.f k a0) (Qbv.f (k + 1) a0) := by
 intro a0 k;have ih0:=Qbv.mono_l k;unfold Qbv.f
 repeat' first
  |(with_reducible exact ih0 _ _ _)
  |(with_reducible exact LeO.refl _)
  |(with_reducible exact LeO.none _)
  |(with_reducible refine LeO.ite ?_ ?_)
  |(with_reducible refine LeO.bind ?_ (fun _=> ?_))
  |exact ih0 _ _ _
  |exact LeO.none _
  |refine LeO.ite ?_ ?_
  |refine LeO.bind ?_ (fun _=> ?_)
set_option maxHeartbeats 8000000 in
set_option maxRecDepth 100000 in
theorem Qbv.calls (k : Nat) (a0 : Int) (r : List Int) (w : World) (h : Qbv.f k a0 = some r) :
 Calls Try.prog 116 #[.int .i64 a0] w fun e w'=> ∃ v0_:Value,e= .returned (v0_)∧Kd.R (Kd.int .i64) 3 w' w.heap.size (fun _=>True) v0_ r∧Below w.heap.size w w':=by
 have HB:=Aside0.mk (Below.refl w.heap.size w);have H:(Qbv.l0 k a0 (([] :List Int)) 0)=some r:=h;clear h;obtain ⟨y331,hy331⟩: ∃ y_:List Int,y_=(([] :List Int)):=⟨_,rfl⟩
 replace H:(Qbv.l0 k a0 y331 0)=some r:=by first|(rw [hy331];with_reducible exact H)|(have H2_:=(Option.bind_some _ _).symm.trans H;rw [hy331];with_reducible exact H2_)|(have H2_:=(Option.bind_some _ _).symm.trans H;with_reducible exact H2_)|with_reducible exact H|(rw [hy331];exact H)|exact H
 have Ny331:=Aside0.mk hy331;clear hy331;have H':=Aside0.mk H;clear H;go_enter Try.func116,Try.ntmps116;go_wp2_with (first|((with_reducible refine Qbb (N:=5) rfl ?_);refine Kd.R_lit (Kd.int .i64) _ 3 ?hg (N:=5) ?hd (xs:=([] :List Int)) (inner:= []) (ok:=fun _=>True) (okp:=fun _=>True) ?hr ?hp (fun _ hk=>hk) trivial (Below.refl _ _) (Nat.le_refl _) (by simp) ?_;(case hd=>rfl);(case hg=>rfl);(case hr=>first|(go_simp;done)|(go_simp;rfl));(case hp=>exact (Reps.none _ _));intro v332 w2 ho3 hb hg_ hnew_;clear hg_ hnew_;(first|rw [←Ny331.out] at ho3|(simp only [Int.reduceToNat] at ho3;rw [←Ny331.out] at ho3));have HO333:=Aside0.mk (Kd.R_lower ho3 (Qq (by repeat (first|(with_reducible first|exact HB.out|apply Qc|apply Qa|apply Qd)|exact HB.out))));replace HB:=Aside0.mk (Qj (by repeat (first|(with_reducible first|exact HB.out|apply Qc|apply Qa|apply Qd)|exact HB.out)) hb);clear hb ho3))
 go_loopg [3,6] k (fun kq v3 v6 w'=> ∃ (x3_1:List Int) (x6_1:Int),v6= .int .i64 x6_1∧Aside0 (Qbv.l0 kq a0 x3_1 x6_1=some r)∧Aside0 (kq≤k)∧Aside0 (Kd.R (Kd.int .i64) 3 w' w.heap.size (fun _=>True) v3 x3_1)∧Aside0 (Below w.heap.size w w'))
 case atStart=>exact ⟨(y331),(0),(by first|rfl|(simp;done)|(simp [*];done)),H',⟨Nat.le_refl _⟩,⟨by (with_reducible repeat (first|apply Kd.R_alloc|apply Kd.R_drewN|apply Kd.R_drew));exact HO333.out⟩,⟨by repeat (first|(with_reducible first|exact HB.out|apply Qc|apply Qa|apply Qd)|exact HB.out)⟩⟩
 case round=>
  clear H'
  try clear c1
  try clear p2
  obtain ⟨x3_1,x6_1,rfl,HA,HK1,HO_3,HB⟩:=hrel;cases gk with
  |zero=>exact absurd HA.out (by simp [Qbv.l0])
  |succ k1=>
   have H:=HA.out;clear HA;simp only [Qbv.l0] at H
   by_cases c4:x6_1<10
   ·
    rw [if_pos c4] at H;have c4b0:decide (x6_1<10)=true:=decide_eq_true c4;clear c4;replace H:=Option.bind_eq_some_iff.mp H;obtain ⟨t334,A50,H⟩:=H;replace H:(if t334=true then (if x3_1.length<17592186044416 then (Qbv.l0 k1 a0 (x3_1++ [x6_1]) (wrap64 (x6_1+1))) else (none)) else (Qbv.l0 k1 a0 x3_1 (wrap64 (x6_1+1))))=some r:=H;have A5:=Aside0.mk A50;clear A50
    by_cases c6:t334=true
    ·
     subst c6;have H1:(if x3_1.length<17592186044416 then (Qbv.l0 k1 a0 (x3_1++ [x6_1]) (wrap64 (x6_1+1))) else (none))=some r:=by rw [if_pos rfl] at H;exact H
     clear H;have H:=H1;clear H1
     by_cases c7:x3_1.length<17592186044416
     ·
      rw [if_pos c7] at H;have LMc7:=Aside0.mk c7;clear c7;obtain ⟨y335,hy335⟩: ∃ y_:List Int,y_=(x3_1++ [x6_1]):=⟨_,rfl⟩
      replace H:(Qbv.l0 k1 a0 y335 (wrap64 (x6_1+1)))=some r:=by first|(rw [hy335];with_reducible exact H)|(have H2_:=(Option.bind_some _ _).symm.trans H;rw [hy335];with_reducible exact H2_)|(have H2_:=(Option.bind_some _ _).symm.trans H;with_reducible exact H2_)|with_reducible exact H|(rw [hy335];exact H)|exact H
      have Ny335:=Aside0.mk hy335;clear hy335;have H':=Aside0.mk H;clear H;go_wp2_with (first|((with_reducible refine Qk (f:=104) rfl ?_);refine Q6 (some 11) rfl rfl Try.func104 (by kernel_rfl) rfl #[.int .i64 a0, .int .i64 x6_1] rfl (by (try simp only [List.map_toArray,List.map_cons,List.map_nil]);first|done|rfl|(simp only [List.length_drop,List.length_take];rfl)) ?_;(with_reducible refine (Qdi.calls a0 x6_1 true _ A5.out).mono ?_);rintro e w' ⟨rfl,⟨nd,rfl⟩⟩;refine ⟨_,rfl,?_⟩)|((with_reducible refine Qcv (b:= .append) (xs:= #[.tmp 12, .tmp 14]) rfl ?_);at_builtin;refine Kd.R_append (Kd.int .i64) (w0:=w) w.heap.size rfl (.tmp 12) (.tmp 14) 24 3 (.int .i64 0) 8 rfl Try.underlying24 Qec rfl (by decide) (by omega) u3 x3_1 x6_1 [.int .i64 x6_1] (fun _=>True) (fun _=>False) rfl rfl ?aP (fun _ hk=>hk.elim) ?aF ?aO ?aB ?aS ?aL ?_;(case aP=>exact rfl);(case aB=>exact (by repeat (first|(with_reducible first|exact HB.out|apply Qc|apply Qa|apply Qd)|exact HB.out)));(case aF=>exact (fun _ _=>trivial));(case aO=>exact (by (with_reducible repeat (first|apply Kd.R_alloc|apply Kd.R_drewN|apply Kd.R_drew));exact HO_3.out));(case aS=>exact (Qq (by repeat (first|(with_reducible first|exact HB.out|apply Qc|apply Qa|apply Qd)|exact HB.out))));(case aL=>have:=LMc7.out;omega);intro v336 w8 ho hb hg hat;rw [←Ny335.out] at ho;replace HB:=Aside0.mk (hb);have HO337:=Aside0.mk (ho);clear HO_3;clear ho hb hg hat));go_roundg k1
      case measure=>have:=HK1.out;omega
      case rel=>exact ⟨(y335),(wrap64 (x6_1+1)),(by first|rfl|(simp;done)|(simp [*];done)),H',⟨by have:=HK1.out;omega⟩,⟨by (with_reducible repeat (first|apply Kd.R_alloc|apply Kd.R_drewN|apply Kd.R_drew));exact HO337.out⟩,⟨by repeat (first|(with_reducible first|exact HB.out|apply Qc|apply Qa|apply Qd)|exact HB.out)⟩⟩
     ·
      rw [if_neg c7] at H;exact absurd H (by simp)
    ·
     replace c6:=Bool.eq_false_iff.mpr c6;subst c6;have H1:(Qbv.l0 k1 a0 x3_1 (wrap64 (x6_1+1)))=some r:=by rw [if_neg (show ¬ (false=true) by decide)] at H;exact H
     clear H;have H:=H1;clear H1;have H':=Aside0.mk H;clear H;go_wp2_with (first|((with_reducible refine Qk (f:=104) rfl ?_);refine Q6 (some 11) rfl rfl Try.func104 (by kernel_rfl) rfl #[.int .i64 a0, .int .i64 x6_1] rfl (by (try simp only [List.map_toArray,List.map_cons,List.map_nil]);first|done|rfl|(simp only [List.length_drop,List.length_take];rfl)) ?_;(with_reducible refine (Qdi.calls a0 x6_1 false _ A5.out).mono ?_);rintro e w' ⟨rfl,⟨nd,rfl⟩⟩;refine ⟨_,rfl,?_⟩));go_roundg k1
     case measure=>have:=HK1.out;omega
     case rel=>exact ⟨(x3_1),(wrap64 (x6_1+1)),(by first|rfl|(simp;done)|(simp [*];done)),H',⟨by have:=HK1.out;omega⟩,⟨by (with_reducible repeat (first|apply Kd.R_alloc|apply Kd.R_drewN|apply Kd.R_drew));exact HO_3.out⟩,⟨by repeat (first|(with_reducible first|exact HB.out|apply Qc|apply Qa|apply Qd)|exact HB.out)⟩⟩
   ·
    rw [if_neg c4] at H;have c4b0:decide (x6_1<10)=false:=decide_eq_false c4;clear c4;obtain rfl:=Option.some.inj H;go_wp2
    go_ret
    exact ⟨_,by first|rfl|(simp [Qm,Ql] <;>rfl)|(simp [*,Qm,Ql] <;>rfl),by (with_reducible repeat (first|apply Kd.R_alloc|apply Kd.R_drewN|apply Kd.R_drew));exact HO_3.out,by repeat (first|(with_reducible first|exact HB.out|apply Qc|apply Qa|apply Qd)|exact HB.out)⟩
mutual
def Qbm.l0 : Nat → List Int → Int → Int → List Int → Option (Bool)
 |0,_,_,_,_=>none
 |k+1,x12,x13,x14,x339000=>if x14<x13 then (if 0≤x14 then (if x14<(x12.length:Int) then ((Qcp.f (rd x12 x14) 0 (wrap64 ((shl .i64 1 x14) - 1))).bind fun t342=>(if t342=true then ((Qbv.f k (rd x12 x14)).bind fun t343=>(Qbm.l1 k (rd x12 x14) x12 x13 x14 t343 (t343.length:Int) 0 x339000)) else (some false))) else (none)) else (none)) else (some true)
def Qbm.l1 : Nat → Int → List Int → Int → Int → List Int → Int → Int → List Int → Option (Bool)
 |0,_,_,_,_,_,_,_,_=>none
 |k+1,x4,x12,x13,x14,x26,x27,x28,x339000=>if x28<x27 then (if 0≤x28 then (if x28<(x26.length:Int) then (if 0≤(rd x26 x28) then (if (rd x26 x28)<(x339000.length:Int) then (if (Go.bits .andNot .i64 (rd x339000 (rd x26 x28)) x4)=0 then (Qbm.l1 k x4 x12 x13 x14 x26 x27 (wrap64 (x28+1)) x339000) else (some false)) else (none)) else (none)) else (none)) else (none)) else (Qbm.l0 k x12 x13 (wrap64 (x14+1)) x339000)
end
def Qbm.f (k : Nat) (l0_0 : List Int) : Option (Bool) := (Qch.f l0_0).bind fun t339 => ((Qcp.f t339 1 10).bind fun t340 => (if t340 = true then (Qbm.l0 k l0_0 (l0_0.length : Int) 0 l0_0) else (some false)))
theorem Qbm.mono_l : ∀ k, (∀ y0 y1 y2 y3, LeO (Qbm.l0 k y0 y1 y2 y3) (Qbm.l0 (k + 1) y0 y1 y2 y3)) ∧ (∀ y0 y1 y2 y3 y4 y5 y6 y7, LeO (Qbm.l1 k y0 y1 y2 y3 y4 y5 y6 y7) (Qbm.l1 (k + 1) y0 y1 y2 y3 y4 y5 y6 y7))
 |0=>⟨fun _ _ _ _ r h=>by simp [Qbm.l0] at h,fun _ _ _ _ _ _ _ _ r h=>by simp [Qbm.l1] at h⟩
 |k+1=>by
  obtain ⟨ih0,ih1⟩:=Qbm.mono_l k;refine ⟨?_,?_⟩
  ·
   intro y0 y1 y2 y3;unfold Qbm.l0
   repeat' first
   |(with_reducible exact ih0 _ _ _ _)
   |(with_reducible exact ih1 _ _ _ _ _ _ _ _)
   |(with_reducible exact Qbv.mono _ _)
   |(with_reducible exact LeO.refl _)
   |(with_reducible exact LeO.none _)
   |(with_reducible refine LeO.ite ?_ ?_)
   |(with_reducible refine LeO.bind ?_ (fun _=> ?_))
   |exact ih0 _ _ _ _
   |exact ih1 _ _ _ _ _ _ _ _
   |exact Qbv.mono _ _
   |exact LeO.none _
   |refine LeO.ite ?_ ?_
   |refine LeO.bind ?_ (fun _=> ?_)
  ·
   intro y0 y1 y2 y3 y4 y5 y6 y7;unfold Qbm.l1
   repeat' first
   |(with_reducible exact ih0 _ _ _ _)
   |(with_reducible exact ih1 _ _ _ _ _ _ _ _)
   |(with_reducible exact Qbv.mono _ _)
   |(with_reducible exact LeO.refl _)
   |(with_reducible exact LeO.none _)
   |(with_reducible refine LeO.ite ?_ ?_)
   |(with_reducible refine LeO.bind ?_ (fun _=> ?_))
   |exact ih0 _ _ _ _
   |exact ih1 _ _ _ _ _ _ _ _
   |exact Qbv.mono _ _
   |exact LeO.none _
   |refine LeO.ite ?_ ?_
   |refine LeO.bind ?_ (fun _=> ?_)
theorem Qbm.mono : ∀ a0 k, LeO (Qbm.f k a0) (Qbm.f (k + 1) a0) := by
 intro a0 k;obtain ⟨ih0,ih1⟩:=Qbm.mono_l k;unfold Qbm.f
 repeat' first
  |(with_reducible exact ih0 _ _ _ _)
  |(with_reducible exact ih1 _ _ _ _ _ _ _ _)
  |(with_reducible exact Qbv.mono _ _)
  |(with_reducible exact LeO.refl _)
  |(with_reducible exact LeO.none _)
  |(with_reducible refine LeO.ite ?_ ?_)
  |(with_reducible refine LeO.bind ?_ (fun _=> ?_))
  |exact ih0 _ _ _ _
  |exact ih1 _ _ _ _ _ _ _ _
  |exact Qbv.mono _ _
  |exact LeO.none _
  |refine LeO.ite ?_ ?_
  |refine LeO.bind ?_ (fun _=> ?_)
set_option maxHeartbeats 8000000 in
set_option maxRecDepth 100000 in
theorem Qbm.calls (k : Nat) (A0_0 : Option Addr) (c0_0 : Nat) (l0_0 : List Int) (r : Bool) (w : World) (hr0_0 : Kd.C (Kd.int .i64) w A0_0 l0_0.length l0_0) (hc0_0 : l0_0.length ≤ c0_0) (h : Qbm.f k l0_0 = some r) :
 Calls Try.prog 75 #[.agg #[.slice A0_0 l0_0.length c0_0]] w fun e w'=>e= .returned (.bool r)∧Below w.heap.size w w':=by
 have hu26:=Try.underlying26;have HR0_0:=Aside0.mk hr0_0;have HC0_0:=Aside0.mk hc0_0;clear hr0_0 hc0_0;have HB:=Aside0.mk (Below.refl w.heap.size w);have H:((Qch.f l0_0).bind fun t339=>((Qcp.f t339 1 10).bind fun t340=>(if t340=true then (Qbm.l0 k l0_0 (l0_0.length:Int) 0 l0_0) else (some false))))=some r:=h;clear h;replace H:=Option.bind_eq_some_iff.mp H;obtain ⟨t339,A20,H⟩:=H;replace H:((Qcp.f t339 1 10).bind fun t340=>(if t340=true then (Qbm.l0 k l0_0 (l0_0.length:Int) 0 l0_0) else (some false)))=some r:=H;have A2:=Aside0.mk A20;clear A20;replace H:=Option.bind_eq_some_iff.mp H;obtain ⟨t340,A30,H⟩:=H;replace H:(if t340=true then (Qbm.l0 k l0_0 (l0_0.length:Int) 0 l0_0) else (some false))=some r:=H;have A3:=Aside0.mk A30;clear A30
 by_cases c4:t340=true
 ·
  subst c4;have H1:(Qbm.l0 k l0_0 (l0_0.length:Int) 0 l0_0)=some r:=by rw [if_pos rfl] at H;exact H
  clear H;have H:=H1;clear H1;have H':=Aside0.mk H;clear H;go_enter Try.func75,Try.ntmps75;go_wp2_with (first|((with_reducible refine Qbb (N:=1) rfl ?_);refine Qbg ?hg (N:=1) ?hd (cs:= #[.slice A0_0 l0_0.length c0_0]) (t:=26) ?hr ?_;(case hd=>rfl);(case hg=>rfl);(case hr=>first|(go_simp;done)|(go_simp;rfl));intro gb338 hg w5 hbox hb;have BK338:=Aside0.mk (hbox);have GW338:=Aside0.mk ((by rw [hg];exact (Qq (by repeat (first|(with_reducible first|exact HB.out|apply Qc|apply Qa|apply Qd)|exact HB.out))):w.heap.size≤gb338));have GE338:=GW338;replace HB:=Aside0.mk (Qj (by repeat (first|(with_reducible first|exact HB.out|apply Qc|apply Qa|apply Qd)|exact HB.out)) hb);clear hb hbox hg;have hcz6_0:w5.cell? ⟨gb338,0,none⟩=some (.slice A0_0 l0_0.length c0_0):=(Qx BK338.out 0).trans rfl;have hfz6_0:=Qp BK338.out 0)|((with_reducible refine Qk (f:=65) rfl ?_);refine Q6 (some 8) rfl rfl Try.func65 (by kernel_rfl) rfl #[.agg #[.slice A0_0 l0_0.length c0_0]] rfl (by (try simp only [List.map_toArray,List.map_cons,List.map_nil]);first|done|rfl|(simp only [List.length_drop,List.length_take];rfl)) ?_;(with_reducible refine (Qch.calls _ _ l0_0 t339 _ ?side1 ?side2 A2.out).mono ?_);(case side1=>repeat (first|exact (Kd.C_below HR0_0.out HB.out)|(with_reducible refine Kd.C_alloc ?_ _)|(with_reducible refine Kd.C_drewN ?_ _)|(with_reducible refine Kd.C_drew ?_)));(case side2=>exact HC0_0.out);rintro e w7 ⟨rfl,hb⟩;refine ⟨_,rfl,?_⟩;replace BK338:=Aside0.mk (Qu (g:=gb338) (o:= .cells #[.slice A0_0 l0_0.length c0_0] 26 (0,0)) (by (with_reducible repeat (first|refine Qg ?_ _|refine Qh ?_|refine Qf ?_ _));exact BK338.out) hb);replace HB:=Aside0.mk (Qj (by repeat (first|(with_reducible first|exact HB.out|apply Qc|apply Qa|apply Qd|refine Qe ?_ GE338.out)|exact HB.out)) hb);(try clear hb);(try clear hb2);(try clear hk);(try clear hi))|((with_reducible refine Qk (f:=81) rfl ?_);refine Q6 (some 9) rfl rfl Try.func81 (by kernel_rfl) rfl #[.int .i64 t339, .int .i64 1, .int .i64 10] rfl (by (try simp only [List.map_toArray,List.map_cons,List.map_nil]);first|done|rfl|(simp only [List.length_drop,List.length_take];rfl)) ?_;(with_reducible refine (Qcp.calls t339 1 10 true _ A3.out).mono ?_);rintro e w' ⟨rfl,⟨nd,rfl⟩⟩;refine ⟨_,rfl,?_⟩;have hcz8_0:w7.cell? ⟨gb338,0,none⟩=some (.slice A0_0 l0_0.length c0_0):=(Qx BK338.out 0).trans rfl;have hfz8_0:=Qp BK338.out 0))
  go_loopg [14] k (fun kq v14 w'=> ∃ (x14_1:Int),v14= .int .i64 x14_1∧Aside0 (Qbm.l0 kq l0_0 (l0_0.length:Int) x14_1 l0_0=some r)∧Aside0 (kq≤k)∧Aside0 (w'.heap[gb338]? =some (.cells #[(.slice A0_0 l0_0.length c0_0)] 26 (0,0)))∧Aside0 (Below w.heap.size w w'))
  case atStart=>exact ⟨(0),(by first|rfl|(simp;done)|(simp [*];done)),H',⟨Nat.le_refl _⟩,⟨by (with_reducible repeat (first|refine Qg ?_ _|refine Qh ?_|refine Qf ?_ _));exact BK338.out⟩,⟨by repeat (first|(with_reducible first|exact HB.out|apply Qc|apply Qa|apply Qd|refine Qe ?_ GE338.out)|exact HB.out)⟩⟩
  case round=>
   clear H'
   try clear p2
   try clear c4
   try clear c6
   try clear c7
   try clear c8
   try clear hcz6_0
   try clear hcz8_0
   try clear hfz6_0
   try clear hfz8_0
   obtain ⟨x14_1,rfl,HA,HK1,BK338,HB⟩:=hrel;cases gk with
   |zero=>exact absurd HA.out (by simp [Qbm.l0])
   |succ k1=>
    have H:=HA.out;clear HA;simp only [Qbm.l0] at H
    by_cases c9:x14_1<(l0_0.length:Int)
    ·
     rw [if_pos c9] at H;have c9b0:decide (x14_1<(l0_0.length:Int))=true:=decide_eq_true c9;clear c9
     by_cases c10:0≤x14_1
     ·
      rw [if_pos c10] at H;have c10b0:decide (0≤x14_1)=true:=decide_eq_true c10;clear c10
      by_cases c11:x14_1<(l0_0.length:Int)
      ·
       rw [if_pos c11] at H;have c11b0:decide (x14_1<(l0_0.length:Int))=true:=decide_eq_true c11;clear c11;have c12b0:=eq_true (of_decide_eq_true (by first|(with_reducible assumption)|assumption):0≤x14_1);obtain ⟨ji13,hji13⟩: ∃ j_:Int,(shl .i64 1 x14_1)=j_:=⟨_,rfl⟩
       replace H:((Qcp.f (rd l0_0 x14_1) 0 (wrap64 ((ji13) - 1))).bind fun t342=>(if t342=true then ((Qbv.f k1 (rd l0_0 x14_1)).bind fun t343=>(Qbm.l1 k1 (rd l0_0 x14_1) l0_0 (l0_0.length:Int) x14_1 t343 (t343.length:Int) 0 l0_0)) else (some false)))=some r:=by first|(rw [hji13] at H;exact H)|(simp only [hji13] at H ⊢;exact H)
       have hji13_:(IntKind.i64.wrap (1*2 ^ min x14_1.toNat 64))=ji13:=hji13;have hji13z:x14_1≤64→(IntKind.i64.wrap (1*2 ^ x14_1.toNat))=ji13:=Qez hji13;have hji13u:(IntKind.i64.wrap (2 ^ min x14_1.toNat 64))=ji13:=by have h_:=hji13_;rw [Int.one_mul] at h_;exact h_
       have hji13v:x14_1≤64→(IntKind.i64.wrap (2 ^ x14_1.toNat))=ji13:=fun hle_=>by have h_:=hji13z hle_;rw [Int.one_mul] at h_;exact h_
       have hji13y:(wrap64 (1*2 ^ min x14_1.toNat 64))=ji13:=(Qcb _).symm.trans hji13_;have hji13x:x14_1≤64→(wrap64 (1*2 ^ x14_1.toNat))=ji13:=fun h_=>(Qcb _).symm.trans (hji13z h_)
       replace H:=Option.bind_eq_some_iff.mp H;obtain ⟨t342,A140,H⟩:=H;replace H:(if t342=true then ((Qbv.f k1 (rd l0_0 x14_1)).bind fun t343=>(Qbm.l1 k1 (rd l0_0 x14_1) l0_0 (l0_0.length:Int) x14_1 t343 (t343.length:Int) 0 l0_0)) else (some false))=some r:=H;have A14:=Aside0.mk A140;clear A140
       by_cases c15:t342=true
       ·
        subst c15;have H1:((Qbv.f k1 (rd l0_0 x14_1)).bind fun t343=>(Qbm.l1 k1 (rd l0_0 x14_1) l0_0 (l0_0.length:Int) x14_1 t343 (t343.length:Int) 0 l0_0))=some r:=by rw [if_pos rfl] at H;exact H
        clear H;have H:=H1;clear H1;replace H:=Option.bind_eq_some_iff.mp H;obtain ⟨t343,A160,H⟩:=H;replace H:(Qbm.l1 k1 (rd l0_0 x14_1) l0_0 (l0_0.length:Int) x14_1 t343 (t343.length:Int) 0 l0_0)=some r:=H;have A16:=Aside0.mk A160;clear A160;have H':=Aside0.mk H;clear H;have p341:0≤(x14_1:Int):=of_decide_eq_true (by first|(with_reducible assumption)|assumption);have q341:x14_1<(l0_0.length:Int):=of_decide_eq_true (by first|(with_reducible assumption)|assumption);obtain ⟨ad341,e341,hx341_0⟩:=Kd.at_int HR0_0.out x14_1 p341 q341;cases e341;replace hx341_0:=(HB.out.cell (World.block_lt_of_cell? w _ hx341_0)).trans hx341_0;replace p341:=eq_true p341;replace q341:=eq_true q341;go_wp2_with (first|((with_reducible refine Qk (f:=81) rfl ?_);refine Q6 (some 23) rfl rfl Try.func81 (by kernel_rfl) rfl #[.int .i64 (rd l0_0 x14_1), .int .i64 0, .int .i64 (wrap64 ((ji13) - 1))] rfl (by (try simp only [List.map_toArray,List.map_cons,List.map_nil]);first|done|(simp only [hji13];rfl)|rfl|(simp only [List.length_drop,List.length_take];rfl)) ?_;(with_reducible refine (Qcp.calls (rd l0_0 x14_1) 0 (wrap64 ((ji13) - 1)) true _ A14.out).mono ?_);rintro e w' ⟨rfl,⟨nd,rfl⟩⟩;refine ⟨_,rfl,?_⟩)|((with_reducible refine Qk (f:=116) rfl ?_);refine Q6 (some 26) rfl rfl Try.func116 (by kernel_rfl) rfl #[.int .i64 (rd l0_0 x14_1)] rfl (by (try simp only [List.map_toArray,List.map_cons,List.map_nil]);first|done|rfl|(simp only [List.length_drop,List.length_take];rfl)) ?_;(with_reducible refine (Qbv.calls k1 (rd l0_0 x14_1) t343 _ A16.out).mono ?_);rintro e w17 ⟨v344,rfl,ho0,hb⟩;refine ⟨_,rfl,?_⟩;have HO345:=Aside0.mk (Kd.R_lower ho0 (Qq (by repeat (first|(with_reducible first|exact HB.out|apply Qc|apply Qa|apply Qd|refine Qe ?_ GE338.out)|exact HB.out))));replace BK338:=Aside0.mk (Qu (g:=gb338) (o:= .cells #[.slice (some ad341) l0_0.length c0_0] 26 (0,0)) (by (with_reducible repeat (first|refine Qg ?_ _|refine Qh ?_|refine Qf ?_ _));exact BK338.out) hb);replace HB:=Aside0.mk (Qj (by repeat (first|(with_reducible first|exact HB.out|apply Qc|apply Qa|apply Qd|refine Qe ?_ GE338.out)|exact HB.out)) hb);(try clear hb);(try clear hb2);(try clear hk);(try clear hi);(try clear ho0);obtain ⟨Ao18,co18,eo18⟩:=Kd.R_slice HO345.out;subst eo18))
        go_loopg [28] k1 (fun kq v28 w'=> ∃ (x28_2:Int),v28= .int .i64 x28_2∧Aside0 (Qbm.l1 kq (rd l0_0 x14_1) l0_0 (l0_0.length:Int) x14_1 t343 (t343.length:Int) x28_2 l0_0=some r)∧Aside0 (kq≤k1)∧Aside0 (Kd.R (Kd.int .i64) 3 w' w.heap.size (fun _=>True) (.slice Ao18 t343.length co18) t343)∧Aside0 (w'.heap[gb338]? =some (.cells #[(.slice (some ad341) l0_0.length c0_0)] 26 (0,0)))∧Aside0 (Below w.heap.size w w'))
        case atStart=>exact ⟨(0),(by first|rfl|(simp;done)|(simp [*];done)),H',⟨Nat.le_refl _⟩,⟨by (with_reducible repeat (first|apply Kd.R_alloc|apply Kd.R_drewN|apply Kd.R_drew));exact HO345.out⟩,⟨by (with_reducible repeat (first|refine Qg ?_ _|refine Qh ?_|refine Qf ?_ _));exact BK338.out⟩,⟨by repeat (first|(with_reducible first|exact HB.out|apply Qc|apply Qa|apply Qd|refine Qe ?_ GE338.out)|exact HB.out)⟩⟩
        case round=>
         clear H'
         try clear c1
         try clear p2
         try clear p3
         try clear q3
         try clear hx3
         try clear c4
         try clear c6
         try clear p6
         try clear c7
         try clear c8
         try clear c9
         try clear c9b0
         try clear c10
         try clear c10b0
         try clear c11
         try clear c11b0
         try clear c12
         try clear c12b0
         try clear c15
         try clear hcz6_0
         try clear hcz8_0
         try clear hfz6_0
         try clear hfz8_0
         try clear hx341_0
         try clear p2
         try clear p341
         try clear q341
         obtain ⟨x28_2,rfl,HA,HK2,HO_26,BK338,HB⟩:=hrel;cases gk with
         |zero=>exact absurd HA.out (by simp [Qbm.l1])
         |succ k2=>
          have H:=HA.out;clear HA;simp only [Qbm.l1] at H
          by_cases c19:x28_2<(t343.length:Int)
          ·
           rw [if_pos c19] at H;have c19b0:decide (x28_2<(t343.length:Int))=true:=decide_eq_true c19;clear c19
           by_cases c20:0≤x28_2
           ·
            rw [if_pos c20] at H;have c20b0:decide (0≤x28_2)=true:=decide_eq_true c20;clear c20
            by_cases c21:x28_2<(t343.length:Int)
            ·
             rw [if_pos c21] at H;have c21b0:decide (x28_2<(t343.length:Int))=true:=decide_eq_true c21;clear c21
             by_cases c22:0≤(rd t343 x28_2)
             ·
              rw [if_pos c22] at H;have c22b0:decide (0≤(rd t343 x28_2))=true:=decide_eq_true c22;clear c22
              by_cases c23:(rd t343 x28_2)<(l0_0.length:Int)
              ·
               rw [if_pos c23] at H;have c23b0:decide ((rd t343 x28_2)<(l0_0.length:Int))=true:=decide_eq_true c23;clear c23
               by_cases c24:(Go.bits .andNot .i64 (rd l0_0 (rd t343 x28_2)) (rd l0_0 x14_1))=0
               ·
                rw [if_pos c24] at H;have c24b0:((Go.bits .andNot .i64 (rd l0_0 (rd t343 x28_2)) (rd l0_0 x14_1))==0)=true:=beq_iff_eq.mpr c24;have c24b1:((Go.bits .andNot .i64 (rd l0_0 (rd t343 x28_2)) (rd l0_0 x14_1)) !=0)=false:=bne_eq_false_iff_eq.mpr c24;clear c24;have H':=Aside0.mk H;clear H;have p346:0≤(x28_2:Int):=of_decide_eq_true (by first|(with_reducible assumption)|assumption);have q346:x28_2<(t343.length:Int):=of_decide_eq_true (by first|(with_reducible assumption)|assumption);obtain ⟨ad346,e346,hx346_0⟩:=Kd.at_int (Kd.R_reads' HO_26.out).2.2 x28_2 p346 q346;cases e346;replace p346:=eq_true p346;replace q346:=eq_true q346;have hcz25_0:wr.cell? ⟨gb338,0,none⟩=some (.slice (some ad341) l0_0.length c0_0):=(Qx BK338.out 0).trans rfl;have hfz25_0:=Qp BK338.out 0;have p347:0≤((rd t343 x28_2):Int):=of_decide_eq_true (by first|(with_reducible assumption)|assumption);have q347:(rd t343 x28_2)<(l0_0.length:Int):=of_decide_eq_true (by first|(with_reducible assumption)|assumption);obtain ⟨ad347,e347,hx347_0⟩:=Kd.at_int HR0_0.out (rd t343 x28_2) p347 q347;obtain rfl:ad341=ad347:=(by injection e347)
                replace hx347_0:=(HB.out.cell (World.block_lt_of_cell? w _ hx347_0)).trans hx347_0;replace p347:=eq_true p347;replace q347:=eq_true q347;go_wp2;go_roundg k2
                case measure=>have:=HK1.out;have:=HK2.out;omega
                case rel=>exact ⟨(wrap64 (x28_2+1)),(by first|rfl|(simp;done)|(simp [*];done)),H',⟨by have:=HK1.out;have:=HK2.out;omega⟩,⟨by (with_reducible repeat (first|apply Kd.R_alloc|apply Kd.R_drewN|apply Kd.R_drew));exact HO_26.out⟩,⟨by (with_reducible repeat (first|refine Qg ?_ _|refine Qh ?_|refine Qf ?_ _));exact BK338.out⟩,⟨by repeat (first|(with_reducible first|exact HB.out|apply Qc|apply Qa|apply Qd|refine Qe ?_ GE338.out)|exact HB.out)⟩⟩
               ·
                rw [if_neg c24] at H;have c24b0:((Go.bits .andNot .i64 (rd l0_0 (rd t343 x28_2)) (rd l0_0 x14_1))==0)=false:=beq_eq_false_iff_ne.mpr c24;have c24b1:((Go.bits .andNot .i64 (rd l0_0 (rd t343 x28_2)) (rd l0_0 x14_1)) !=0)=true:=bne_iff_ne.mpr c24;obtain rfl:=Option.some.inj H;have p346:0≤(x28_2:Int):=of_decide_eq_true (by first|(with_reducible assumption)|assumption);have q346:x28_2<(t343.length:Int):=of_decide_eq_true (by first|(with_reducible assumption)|assumption);obtain ⟨ad346,e346,hx346_0⟩:=Kd.at_int (Kd.R_reads' HO_26.out).2.2 x28_2 p346 q346;cases e346;replace p346:=eq_true p346;replace q346:=eq_true q346;have hcz26_0:wr.cell? ⟨gb338,0,none⟩=some (.slice (some ad341) l0_0.length c0_0):=(Qx BK338.out 0).trans rfl;have hfz26_0:=Qp BK338.out 0;have p347:0≤((rd t343 x28_2):Int):=of_decide_eq_true (by first|(with_reducible assumption)|assumption);have q347:(rd t343 x28_2)<(l0_0.length:Int):=of_decide_eq_true (by first|(with_reducible assumption)|assumption);obtain ⟨ad347,e347,hx347_0⟩:=Kd.at_int HR0_0.out (rd t343 x28_2) p347 q347;obtain rfl:ad341=ad347:=(by injection e347)
                replace hx347_0:=(HB.out.cell (World.block_lt_of_cell? w _ hx347_0)).trans hx347_0;replace p347:=eq_true p347;replace q347:=eq_true q347;go_wp2
                go_ret
                exact ⟨by first|rfl|(simp [Qm,Ql] <;>rfl)|(simp only [←hji13];first|rfl|(simp [Qm,Ql] <;>rfl))|(simp [*,Qm,Ql] <;>rfl),by repeat (first|(with_reducible first|exact HB.out|apply Qc|apply Qa|apply Qd|refine Qe ?_ GE338.out)|exact HB.out)⟩
              ·
               rw [if_neg c23] at H;exact absurd H (by simp)
             ·
              rw [if_neg c22] at H;exact absurd H (by simp)
            ·
             rw [if_neg c21] at H;exact absurd H (by simp)
           ·
            rw [if_neg c20] at H;exact absurd H (by simp)
          ·
           rw [if_neg c19] at H;have c19b0:decide (x28_2<(t343.length:Int))=false:=decide_eq_false c19;clear c19;have H':=Aside0.mk H;clear H;go_wp2;go_roundg k2
           case measure=>have:=HK1.out;have:=HK2.out;omega
           case rel=>exact ⟨(wrap64 (x14_1+1)),(by first|rfl|(simp;done)|(simp [*];done)),H',⟨by have:=HK1.out;have:=HK2.out;omega⟩,⟨by (with_reducible repeat (first|refine Qg ?_ _|refine Qh ?_|refine Qf ?_ _));exact BK338.out⟩,⟨by repeat (first|(with_reducible first|exact HB.out|apply Qc|apply Qa|apply Qd|refine Qe ?_ GE338.out)|exact HB.out)⟩⟩
       ·
        replace c15:=Bool.eq_false_iff.mpr c15;subst c15;have H1:(some false)=some r:=by rw [if_neg (show ¬ (false=true) by decide)] at H;exact H
        clear H;have H:=H1;clear H1;obtain rfl:=Option.some.inj H;have p341:0≤(x14_1:Int):=of_decide_eq_true (by first|(with_reducible assumption)|assumption);have q341:x14_1<(l0_0.length:Int):=of_decide_eq_true (by first|(with_reducible assumption)|assumption);obtain ⟨ad341,e341,hx341_0⟩:=Kd.at_int HR0_0.out x14_1 p341 q341;cases e341;replace hx341_0:=(HB.out.cell (World.block_lt_of_cell? w _ hx341_0)).trans hx341_0;replace p341:=eq_true p341;replace q341:=eq_true q341;go_wp2_with (first|((with_reducible refine Qk (f:=81) rfl ?_);refine Q6 (some 23) rfl rfl Try.func81 (by kernel_rfl) rfl #[.int .i64 (rd l0_0 x14_1), .int .i64 0, .int .i64 (wrap64 ((ji13) - 1))] rfl (by (try simp only [List.map_toArray,List.map_cons,List.map_nil]);first|done|(simp only [hji13];rfl)|rfl|(simp only [List.length_drop,List.length_take];rfl)) ?_;(with_reducible refine (Qcp.calls (rd l0_0 x14_1) 0 (wrap64 ((ji13) - 1)) false _ A14.out).mono ?_);rintro e w' ⟨rfl,⟨nd,rfl⟩⟩;refine ⟨_,rfl,?_⟩))
        go_ret
        exact ⟨by first|rfl|(simp [Qm,Ql] <;>rfl)|(simp only [←hji13];first|rfl|(simp [Qm,Ql] <;>rfl))|(simp [*,Qm,Ql] <;>rfl),by repeat (first|(with_reducible first|exact HB.out|apply Qc|apply Qa|apply Qd|refine Qe ?_ GE338.out)|exact HB.out)⟩
      ·
       rw [if_neg c11] at H;exact absurd H (by simp)
     ·
      rw [if_neg c10] at H;exact absurd H (by simp)
    ·
     rw [if_neg c9] at H;have c9b0:decide (x14_1<(l0_0.length:Int))=false:=decide_eq_false c9;clear c9;obtain rfl:=Option.some.inj H;go_wp2
     go_ret
     exact ⟨by first|rfl|(simp [Qm,Ql] <;>rfl)|(simp [*,Qm,Ql] <;>rfl),by repeat (first|(with_reducible first|exact HB.out|apply Qc|apply Qa|apply Qd|refine Qe ?_ GE338.out)|exact HB.out)⟩
 ·
  replace c4:=Bool.eq_false_iff.mpr c4;subst c4;have H1:(some false)=some r:=by rw [if_neg (show ¬ (false=true) by decide)] at H;exact H
  clear H;have H:=H1;clear H1;obtain rfl:=Option.some.inj H;go_enter Try.func75,Try.ntmps75;go_wp2_with (first|((with_reducible refine Qbb (N:=1) rfl ?_);refine Qbg ?hg (N:=1) ?hd (cs:= #[.slice A0_0 l0_0.length c0_0]) (t:=26) ?hr ?_;(case hd=>rfl);(case hg=>rfl);(case hr=>first|(go_simp;done)|(go_simp;rfl));intro gb338 hg w27 hbox hb;have BK338:=Aside0.mk (hbox);have GW338:=Aside0.mk ((by rw [hg];exact (Qq (by repeat (first|(with_reducible first|exact HB.out|apply Qc|apply Qa|apply Qd)|exact HB.out))):w.heap.size≤gb338));have GE338:=GW338;replace HB:=Aside0.mk (Qj (by repeat (first|(with_reducible first|exact HB.out|apply Qc|apply Qa|apply Qd)|exact HB.out)) hb);clear hb hbox hg;have hcz28_0:w27.cell? ⟨gb338,0,none⟩=some (.slice A0_0 l0_0.length c0_0):=(Qx BK338.out 0).trans rfl;have hfz28_0:=Qp BK338.out 0)|((with_reducible refine Qk (f:=65) rfl ?_);refine Q6 (some 8) rfl rfl Try.func65 (by kernel_rfl) rfl #[.agg #[.slice A0_0 l0_0.length c0_0]] rfl (by (try simp only [List.map_toArray,List.map_cons,List.map_nil]);first|done|rfl|(simp only [List.length_drop,List.length_take];rfl)) ?_;(with_reducible refine (Qch.calls _ _ l0_0 t339 _ ?side1 ?side2 A2.out).mono ?_);(case side1=>repeat (first|exact (Kd.C_below HR0_0.out HB.out)|(with_reducible refine Kd.C_alloc ?_ _)|(with_reducible refine Kd.C_drewN ?_ _)|(with_reducible refine Kd.C_drew ?_)));(case side2=>exact HC0_0.out);rintro e w29 ⟨rfl,hb⟩;refine ⟨_,rfl,?_⟩;replace BK338:=Aside0.mk (Qu (g:=gb338) (o:= .cells #[.slice A0_0 l0_0.length c0_0] 26 (0,0)) (by (with_reducible repeat (first|refine Qg ?_ _|refine Qh ?_|refine Qf ?_ _));exact BK338.out) hb);replace HB:=Aside0.mk (Qj (by repeat (first|(with_reducible first|exact HB.out|apply Qc|apply Qa|apply Qd|refine Qe ?_ GE338.out)|exact HB.out)) hb);(try clear hb);(try clear hb2);(try clear hk);(try clear hi))|((with_reducible refine Qk (f:=81) rfl ?_);refine Q6 (some 9) rfl rfl Try.func81 (by kernel_rfl) rfl #[.int .i64 t339, .int .i64 1, .int .i64 10] rfl (by (try simp only [List.map_toArray,List.map_cons,List.map_nil]);first|done|rfl|(simp only [List.length_drop,List.length_take];rfl)) ?_;(with_reducible refine (Qcp.calls t339 1 10 false _ A3.out).mono ?_);rintro e w' ⟨rfl,⟨nd,rfl⟩⟩;refine ⟨_,rfl,?_⟩))
  go_ret
  exact ⟨by first|rfl|(simp [Qm,Ql] <;>rfl)|(simp [*,Qm,Ql] <;>rfl),by repeat (first|(with_reducible first|exact HB.out|apply Qc|apply Qa|apply Qd|refine Qe ?_ GE338.out)|exact HB.out)⟩
def Qcz.f (k : Nat) (l0_0 : List Int) (a1 : Int) : Option (Bool) := (Qbm.f k l0_0).bind fun t349 => (if t349 = true then ((Qcp.f a1 0 20).bind fun t350 => (some t350)) else (some false))
theorem Qcz.mono : ∀ a0 a1 k, LeO (Qcz.f k a0 a1) (Qcz.f (k + 1) a0 a1) := by
 intro a0 a1 k;unfold Qcz.f
 repeat' first
  |(with_reducible exact Qbm.mono _ _)
  |(with_reducible exact LeO.refl _)
  |(with_reducible exact LeO.none _)
  |(with_reducible refine LeO.ite ?_ ?_)
  |(with_reducible refine LeO.bind ?_ (fun _=> ?_))
  |exact Qbm.mono _ _
  |exact LeO.none _
  |refine LeO.ite ?_ ?_
  |refine LeO.bind ?_ (fun _=> ?_)
set_option maxHeartbeats 8000000 in
set_option maxRecDepth 100000 in
theorem Qcz.calls (k : Nat) (A0_0 : Option Addr) (c0_0 : Nat) (l0_0 : List Int) (a1 : Int) (r : Bool) (w : World) (hr0_0 : Kd.C (Kd.int .i64) w A0_0 l0_0.length l0_0) (hc0_0 : l0_0.length ≤ c0_0) (h : Qcz.f k l0_0 a1 = some r) :
 Calls Try.prog 77 #[.agg #[.slice A0_0 l0_0.length c0_0], .int .i64 a1] w fun e w'=>e= .returned (.bool r)∧Below w.heap.size w w':=by
 have hu26:=Try.underlying26;have HR0_0:=Aside0.mk hr0_0;have HC0_0:=Aside0.mk hc0_0;clear hr0_0 hc0_0;have HB:=Aside0.mk (Below.refl w.heap.size w);have H:((Qbm.f k l0_0).bind fun t349=>(if t349=true then ((Qcp.f a1 0 20).bind fun t350=>(some t350)) else (some false)))=some r:=h;clear h;replace H:=Option.bind_eq_some_iff.mp H;obtain ⟨t349,A30,H⟩:=H;replace H:(if t349=true then ((Qcp.f a1 0 20).bind fun t350=>(some t350)) else (some false))=some r:=H;have A3:=Aside0.mk A30;clear A30
 by_cases c4:t349=true
 ·
  subst c4;have H1:((Qcp.f a1 0 20).bind fun t350=>(some t350))=some r:=by rw [if_pos rfl] at H;exact H
  clear H;have H:=H1;clear H1;replace H:=Option.bind_eq_some_iff.mp H;obtain ⟨t350,A50,H⟩:=H;replace H:(some t350)=some r:=H;have A5:=Aside0.mk A50;clear A50;obtain rfl:=Option.some.inj H;go_enter Try.func77,Try.ntmps77;go_wp2_with (first|((with_reducible refine Qbb (N:=2) rfl ?_);refine Qbg ?hg (N:=2) ?hd (cs:= #[.slice A0_0 l0_0.length c0_0]) (t:=26) ?hr ?_;(case hd=>rfl);(case hg=>rfl);(case hr=>first|(go_simp;done)|(go_simp;rfl));intro gb348 hg w6 hbox hb;have BK348:=Aside0.mk (hbox);have GW348:=Aside0.mk ((by rw [hg];exact (Qq (by repeat (first|(with_reducible first|exact HB.out|apply Qc|apply Qa|apply Qd)|exact HB.out))):w.heap.size≤gb348));have GE348:=GW348;replace HB:=Aside0.mk (Qj (by repeat (first|(with_reducible first|exact HB.out|apply Qc|apply Qa|apply Qd)|exact HB.out)) hb);clear hb hbox hg;have hcz7_0:w6.cell? ⟨gb348,0,none⟩=some (.slice A0_0 l0_0.length c0_0):=(Qx BK348.out 0).trans rfl;have hfz7_0:=Qp BK348.out 0)|((with_reducible refine Qk (f:=75) rfl ?_);refine Q6 (some 6) rfl rfl Try.func75 (by kernel_rfl) rfl #[.agg #[.slice A0_0 l0_0.length c0_0]] rfl (by (try simp only [List.map_toArray,List.map_cons,List.map_nil]);first|done|rfl|(simp only [List.length_drop,List.length_take];rfl)) ?_;(with_reducible refine (Qbm.calls k _ _ l0_0 true _ ?side1 ?side2 A3.out).mono ?_);(case side1=>repeat (first|exact (Kd.C_below HR0_0.out HB.out)|(with_reducible refine Kd.C_alloc ?_ _)|(with_reducible refine Kd.C_drewN ?_ _)|(with_reducible refine Kd.C_drew ?_)));(case side2=>exact HC0_0.out);rintro e w8 ⟨rfl,hb⟩;refine ⟨_,rfl,?_⟩;replace BK348:=Aside0.mk (Qu (g:=gb348) (o:= .cells #[.slice A0_0 l0_0.length c0_0] 26 (0,0)) (by (with_reducible repeat (first|refine Qg ?_ _|refine Qh ?_|refine Qf ?_ _));exact BK348.out) hb);replace HB:=Aside0.mk (Qj (by repeat (first|(with_reducible first|exact HB.out|apply Qc|apply Qa|apply Qd|refine Qe ?_ GE348.out)|exact HB.out)) hb);(try clear hb);(try clear hb2);(try clear hk);(try clear hi))|(go_at_call 81;(with_reducible refine (Qcp.calls a1 0 20 t350 _ A5.out).mono ?_);rintro e w' ⟨rfl,⟨nd,rfl⟩⟩))
  go_ret
  exact ⟨by first|rfl|(simp [Qm,Ql] <;>rfl)|(simp [*,Qm,Ql] <;>rfl),by repeat (first|(with_reducible first|exact HB.out|apply Qc|apply Qa|apply Qd|refine Qe ?_ GE348.out)|exact HB.out)⟩
 ·
  replace c4:=Bool.eq_false_iff.mpr c4;subst c4;have H1:(some false)=some r:=by rw [if_neg (show ¬ (false=true) by decide)] at H;exact H
  clear H;have H:=H1;clear H1;obtain rfl:=Option.some.inj H;go_enter Try.func77,Try.ntmps77;go_wp2_with (first|((with_reducible refine Qbb (N:=2) rfl ?_);refine Qbg ?hg (N:=2) ?hd (cs:= #[.slice A0_0 l0_0.length c0_0]) (t:=26) ?hr ?_;(case hd=>rfl);(case hg=>rfl);(case hr=>first|(go_simp;done)|(go_simp;rfl));intro gb348 hg w9 hbox hb;have BK348:=Aside0.mk (hbox);have GW348:=Aside0.mk ((by rw [hg];exact (Qq (by repeat (first|(with_reducible first|exact HB.out|apply Qc|apply Qa|apply Qd)|exact HB.out))):w.heap.size≤gb348));have GE348:=GW348;replace HB:=Aside0.mk (Qj (by repeat (first|(with_reducible first|exact HB.out|apply Qc|apply Qa|apply Qd)|exact HB.out)) hb);clear hb hbox hg;have hcz10_0:w9.cell? ⟨gb348,0,none⟩=some (.slice A0_0 l0_0.length c0_0):=(Qx BK348.out 0).trans rfl;have hfz10_0:=Qp BK348.out 0)|((with_reducible refine Qk (f:=75) rfl ?_);refine Q6 (some 6) rfl rfl Try.func75 (by kernel_rfl) rfl #[.agg #[.slice A0_0 l0_0.length c0_0]] rfl (by (try simp only [List.map_toArray,List.map_cons,List.map_nil]);first|done|rfl|(simp only [List.length_drop,List.length_take];rfl)) ?_;(with_reducible refine (Qbm.calls k _ _ l0_0 false _ ?side1 ?side2 A3.out).mono ?_);(case side1=>repeat (first|exact (Kd.C_below HR0_0.out HB.out)|(with_reducible refine Kd.C_alloc ?_ _)|(with_reducible refine Kd.C_drewN ?_ _)|(with_reducible refine Kd.C_drew ?_)));(case side2=>exact HC0_0.out);rintro e w11 ⟨rfl,hb⟩;refine ⟨_,rfl,?_⟩;replace BK348:=Aside0.mk (Qu (g:=gb348) (o:= .cells #[.slice A0_0 l0_0.length c0_0] 26 (0,0)) (by (with_reducible repeat (first|refine Qg ?_ _|refine Qh ?_|refine Qf ?_ _));exact BK348.out) hb);replace HB:=Aside0.mk (Qj (by repeat (first|(with_reducible first|exact HB.out|apply Qc|apply Qa|apply Qd|refine Qe ?_ GE348.out)|exact HB.out)) hb);(try clear hb);(try clear hb2);(try clear hk);(try clear hi)))
  go_ret
  exact ⟨by first|rfl|(simp [Qm,Ql] <;>rfl)|(simp [*,Qm,Ql] <;>rfl),by repeat (first|(with_reducible first|exact HB.out|apply Qc|apply Qa|apply Qd|refine Qe ?_ GE348.out)|exact HB.out)⟩
mutual
def Q1.l0 : Nat → List Int → Int → Int → List Int → Int → Int → List Int → Option (Bool)
 |0,_,_,_,_,_,_,_=>none
 |k+1,x1,x2,x3,x18,x19,x20,x352000=>if x20<x19 then (if 0≤x20 then (if x20<(x18.length:Int) then ((Qcp.f (rd x18 x20) 0 x2).bind fun t354=>(if t354=true then (if x20<(x352000.length:Int) then ((Qbv.f k (rd x352000 x20)).bind fun t356=>(Q1.l1 k x1 x2 x3 (rd x18 x20) x18 x19 x20 t356 (t356.length:Int) 0 x352000)) else (none)) else (some false))) else (none)) else (none)) else (some true)
def Q1.l1 : Nat → List Int → Int → Int → Int → List Int → Int → Int → List Int → Int → Int → List Int → Option (Bool)
 |0,_,_,_,_,_,_,_,_,_,_,_=>none
 |k+1,x1,x2,x3,x10,x18,x19,x20,x34,x35,x36,x352000=>if x36<x35 then (if 0≤x36 then (if x36<(x34.length:Int) then (if 0≤(rd x34 x36) then (if (rd x34 x36)<(x1.length:Int) then (if x10<(wrap64 ((rd x1 (rd x34 x36))+x3)) then (some false) else (Q1.l1 k x1 x2 x3 x10 x18 x19 x20 x34 x35 (wrap64 (x36+1)) x352000)) else (none)) else (none)) else (none)) else (none)) else (Q1.l0 k x1 x2 x3 x18 x19 (wrap64 (x20+1)) x352000)
end
def Q1.f (k : Nat) (l0_0 : List Int) (l1 : List Int) (a2 : Int) (a3 : Int) : Option (Bool) := (Qch.f l0_0).bind fun t352 => (if (l1.length : Int) = t352 then (Q1.l0 k l1 a2 a3 l1 (l1.length : Int) 0 l0_0) else (some false))
theorem Q1.mono_l : ∀ k, (∀ y0 y1 y2 y3 y4 y5 y6, LeO (Q1.l0 k y0 y1 y2 y3 y4 y5 y6) (Q1.l0 (k + 1) y0 y1 y2 y3 y4 y5 y6)) ∧ (∀ y0 y1 y2 y3 y4 y5 y6 y7 y8 y9 y10, LeO (Q1.l1 k y0 y1 y2 y3 y4 y5 y6 y7 y8 y9 y10) (Q1.l1 (k + 1) y0 y1 y2 y3 y4 y5 y6 y7 y8 y9 y10))
 |0=>⟨fun _ _ _ _ _ _ _ r h=>by simp [Q1.l0] at h,fun _ _ _ _ _ _ _ _ _ _ _ r h=>by simp [Q1.l1] at h⟩
 |k+1=>by
  obtain ⟨ih0,ih1⟩:=Q1.mono_l k;refine ⟨?_,?_⟩
  ·
   intro y0 y1 y2 y3 y4 y5 y6;unfold Q1.l0
   repeat' first
   |(with_reducible exact ih0 _ _ _ _ _ _ _)
   |(with_reducible exact ih1 _ _ _ _ _ _ _ _ _ _ _)
   |(with_reducible exact Qbv.mono _ _)
   |(with_reducible exact LeO.refl _)
   |(with_reducible exact LeO.none _)
   |(with_reducible refine LeO.ite ?_ ?_)
   |(with_reducible refine LeO.bind ?_ (fun _=> ?_))
   |exact ih0 _ _ _ _ _ _ _
   |exact ih1 _ _ _ _ _ _ _ _ _ _ _
   |exact Qbv.mono _ _
   |exact LeO.none _
   |refine LeO.ite ?_ ?_
   |refine LeO.bind ?_ (fun _=> ?_)
  ·
   intro y0 y1 y2 y3 y4 y5 y6 y7 y8 y9 y10;unfold Q1.l1
   repeat' first
   |(with_reducible exact ih0 _ _ _ _ _ _ _)
   |(with_reducible exact ih1 _ _ _ _ _ _ _ _ _ _ _)
   |(with_reducible exact Qbv.mono _ _)
   |(with_reducible exact LeO.refl _)
   |(with_reducible exact LeO.none _)
   |(with_reducible refine LeO.ite ?_ ?_)
   |(with_reducible refine LeO.bind ?_ (fun _=> ?_))
   |exact ih0 _ _ _ _ _ _ _
   |exact ih1 _ _ _ _ _ _ _ _ _ _ _
   |exact Qbv.mono _ _
   |exact LeO.none _
   |refine LeO.ite ?_ ?_
   |refine LeO.bind ?_ (fun _=> ?_)
theorem Q1.mono : ∀ a0 a1 a2 a3 k, LeO (Q1.f k a0 a1 a2 a3) (Q1.f (k + 1) a0 a1 a2 a3) := by
 intro a0 a1 a2 a3 k;obtain ⟨ih0,ih1⟩:=Q1.mono_l k;unfold Q1.f
 repeat' first
  |(with_reducible exact ih0 _ _ _ _ _ _ _)
  |(with_reducible exact ih1 _ _ _ _ _ _ _ _ _ _ _)
  |(with_reducible exact Qbv.mono _ _)
  |(with_reducible exact LeO.refl _)
  |(with_reducible exact LeO.none _)
  |(with_reducible refine LeO.ite ?_ ?_)
  |(with_reducible refine LeO.bind ?_ (fun _=> ?_))
  |exact ih0 _ _ _ _ _ _ _
  |exact ih1 _ _ _ _ _ _ _ _ _ _ _
  |exact Qbv.mono _ _
  |exact LeO.none _
  |refine LeO.ite ?_ ?_
  |refine LeO.bind ?_ (fun _=> ?_)
set_option maxHeartbeats 8000000 in
set_option maxRecDepth 100000 in
theorem Q1.calls (k : Nat) (A0_0 : Option Addr) (c0_0 : Nat) (l0_0 : List Int) (A1 : Option Addr) (c1 : Nat) (l1 : List Int) (a2 : Int) (a3 : Int) (r : Bool) (w : World) (hr0_0 : Kd.C (Kd.int .i64) w A0_0 l0_0.length l0_0) (hc0_0 : l0_0.length ≤ c0_0) (hr1 : Kd.C (Kd.int .i64) w A1 l1.length l1) (hc1 : l1.length ≤ c1) (h : Q1.f k l0_0 l1 a2 a3 = some r) :
 Calls Try.prog 78 #[.agg #[.slice A0_0 l0_0.length c0_0], .slice A1 l1.length c1, .int .i64 a2, .int .i64 a3] w fun e w'=>e= .returned (.bool r)∧Below w.heap.size w w':=by
 have hu26:=Try.underlying26;have HR0_0:=Aside0.mk hr0_0;have HC0_0:=Aside0.mk hc0_0;clear hr0_0 hc0_0;have HR1:=Aside0.mk hr1;have HC1:=Aside0.mk hc1;clear hr1 hc1;have HB:=Aside0.mk (Below.refl w.heap.size w);have H:((Qch.f l0_0).bind fun t352=>(if (l1.length:Int)=t352 then (Q1.l0 k l1 a2 a3 l1 (l1.length:Int) 0 l0_0) else (some false)))=some r:=h;clear h;replace H:=Option.bind_eq_some_iff.mp H;obtain ⟨t352,A50,H⟩:=H;replace H:(if (l1.length:Int)=t352 then (Q1.l0 k l1 a2 a3 l1 (l1.length:Int) 0 l0_0) else (some false))=some r:=H;have A5:=Aside0.mk A50;clear A50
 by_cases c6:(l1.length:Int)=t352
 ·
  rw [if_pos c6] at H;have c6b0:((l1.length:Int)==t352)=true:=beq_iff_eq.mpr c6;have c6b1:((l1.length:Int) !=t352)=false:=bne_eq_false_iff_eq.mpr c6;clear c6;have H':=Aside0.mk H;clear H;go_enter Try.func78,Try.ntmps78;go_wp2_with (first|((with_reducible refine Qbb (N:=4) rfl ?_);refine Qbg ?hg (N:=4) ?hd (cs:= #[.slice A0_0 l0_0.length c0_0]) (t:=26) ?hr ?_;(case hd=>rfl);(case hg=>rfl);(case hr=>first|(go_simp;done)|(go_simp;rfl));intro gb351 hg w7 hbox hb;have BK351:=Aside0.mk (hbox);have GW351:=Aside0.mk ((by rw [hg];exact (Qq (by repeat (first|(with_reducible first|exact HB.out|apply Qc|apply Qa|apply Qd)|exact HB.out))):w.heap.size≤gb351));have GE351:=GW351;replace HB:=Aside0.mk (Qj (by repeat (first|(with_reducible first|exact HB.out|apply Qc|apply Qa|apply Qd)|exact HB.out)) hb);clear hb hbox hg;have hcz8_0:w7.cell? ⟨gb351,0,none⟩=some (.slice A0_0 l0_0.length c0_0):=(Qx BK351.out 0).trans rfl;have hfz8_0:=Qp BK351.out 0)|((with_reducible refine Qk (f:=65) rfl ?_);refine Q6 (some 16) rfl rfl Try.func65 (by kernel_rfl) rfl #[.agg #[.slice A0_0 l0_0.length c0_0]] rfl (by (try simp only [List.map_toArray,List.map_cons,List.map_nil]);first|done|rfl|(simp only [List.length_drop,List.length_take];rfl)) ?_;(with_reducible refine (Qch.calls _ _ l0_0 t352 _ ?side1 ?side2 A5.out).mono ?_);(case side1=>repeat (first|exact (Kd.C_below HR0_0.out HB.out)|(with_reducible refine Kd.C_alloc ?_ _)|(with_reducible refine Kd.C_drewN ?_ _)|(with_reducible refine Kd.C_drew ?_)));(case side2=>exact HC0_0.out);rintro e w9 ⟨rfl,hb⟩;refine ⟨_,rfl,?_⟩;replace BK351:=Aside0.mk (Qu (g:=gb351) (o:= .cells #[.slice A0_0 l0_0.length c0_0] 26 (0,0)) (by (with_reducible repeat (first|refine Qg ?_ _|refine Qh ?_|refine Qf ?_ _));exact BK351.out) hb);replace HB:=Aside0.mk (Qj (by repeat (first|(with_reducible first|exact HB.out|apply Qc|apply Qa|apply Qd|refine Qe ?_ GE351.out)|exact HB.out)) hb);(try clear hb);(try clear hb2);(try clear hk);(try clear hi)))
  go_loopg [20] k (fun kq v20 w'=> ∃ (x20_1:Int),v20= .int .i64 x20_1∧Aside0 (Q1.l0 kq l1 a2 a3 l1 (l1.length:Int) x20_1 l0_0=some r)∧Aside0 (kq≤k)∧Aside0 (w'.heap[gb351]? =some (.cells #[(.slice A0_0 l0_0.length c0_0)] 26 (0,0)))∧Aside0 (Below w.heap.size w w'))
  case atStart=>exact ⟨(0),(by first|rfl|(simp;done)|(simp [*];done)),H',⟨Nat.le_refl _⟩,⟨by (with_reducible repeat (first|refine Qg ?_ _|refine Qh ?_|refine Qf ?_ _));exact BK351.out⟩,⟨by repeat (first|(with_reducible first|exact HB.out|apply Qc|apply Qa|apply Qd|refine Qe ?_ GE351.out)|exact HB.out)⟩⟩
  case round=>
   clear H'
   try clear c1
   try clear p2
   try clear c6
   try clear c6b0
   try clear c6b1
   try clear c7
   try clear hcz8_0
   try clear hfz8_0
   obtain ⟨x20_1,rfl,HA,HK1,BK351,HB⟩:=hrel;cases gk with
   |zero=>exact absurd HA.out (by simp [Q1.l0])
   |succ k1=>
    have H:=HA.out;clear HA;simp only [Q1.l0] at H
    by_cases c10:x20_1<(l1.length:Int)
    ·
     rw [if_pos c10] at H;have c10b0:decide (x20_1<(l1.length:Int))=true:=decide_eq_true c10;clear c10
     by_cases c11:0≤x20_1
     ·
      rw [if_pos c11] at H;have c11b0:decide (0≤x20_1)=true:=decide_eq_true c11;clear c11
      by_cases c12:x20_1<(l1.length:Int)
      ·
       rw [if_pos c12] at H;have c12b0:decide (x20_1<(l1.length:Int))=true:=decide_eq_true c12;clear c12;replace H:=Option.bind_eq_some_iff.mp H;obtain ⟨t354,A130,H⟩:=H;replace H:(if t354=true then (if x20_1<(l0_0.length:Int) then ((Qbv.f k1 (rd l0_0 x20_1)).bind fun t356=>(Q1.l1 k1 l1 a2 a3 (rd l1 x20_1) l1 (l1.length:Int) x20_1 t356 (t356.length:Int) 0 l0_0)) else (none)) else (some false))=some r:=H;have A13:=Aside0.mk A130;clear A130
       by_cases c14:t354=true
       ·
        subst c14;have H1:(if x20_1<(l0_0.length:Int) then ((Qbv.f k1 (rd l0_0 x20_1)).bind fun t356=>(Q1.l1 k1 l1 a2 a3 (rd l1 x20_1) l1 (l1.length:Int) x20_1 t356 (t356.length:Int) 0 l0_0)) else (none))=some r:=by rw [if_pos rfl] at H;exact H
        clear H;have H:=H1;clear H1
        by_cases c15:x20_1<(l0_0.length:Int)
        ·
         rw [if_pos c15] at H;have c15b0:decide (x20_1<(l0_0.length:Int))=true:=decide_eq_true c15;clear c15;replace H:=Option.bind_eq_some_iff.mp H;obtain ⟨t356,A160,H⟩:=H;replace H:(Q1.l1 k1 l1 a2 a3 (rd l1 x20_1) l1 (l1.length:Int) x20_1 t356 (t356.length:Int) 0 l0_0)=some r:=H;have A16:=Aside0.mk A160;clear A160;have H':=Aside0.mk H;clear H;have p353:0≤(x20_1:Int):=of_decide_eq_true (by first|(with_reducible assumption)|assumption);have q353:x20_1<(l1.length:Int):=of_decide_eq_true (by first|(with_reducible assumption)|assumption);obtain ⟨ad353,e353,hx353_0⟩:=Kd.at_int HR1.out x20_1 p353 q353;cases e353;replace hx353_0:=(HB.out.cell (World.block_lt_of_cell? w _ hx353_0)).trans hx353_0;replace p353:=eq_true p353;replace q353:=eq_true q353;go_wp2_with (first|((with_reducible refine Qk (f:=81) rfl ?_);refine Q6 (some 27) rfl rfl Try.func81 (by kernel_rfl) rfl #[.int .i64 (rd l1 x20_1), .int .i64 0, .int .i64 a2] rfl (by (try simp only [List.map_toArray,List.map_cons,List.map_nil]);first|done|rfl|(simp only [List.length_drop,List.length_take];rfl)) ?_;(with_reducible refine (Qcp.calls (rd l1 x20_1) 0 a2 true _ A13.out).mono ?_);rintro e w' ⟨rfl,⟨nd,rfl⟩⟩;refine ⟨_,rfl,?_⟩;have hcz17_0:wr.cell? ⟨gb351,0,none⟩=some (.slice A0_0 l0_0.length c0_0):=(Qx BK351.out 0).trans rfl;have hfz17_0:=Qp BK351.out 0;have p355:0≤(x20_1:Int):=of_decide_eq_true (by first|(with_reducible assumption)|assumption);have q355:x20_1<(l0_0.length:Int):=of_decide_eq_true (by first|(with_reducible assumption)|assumption);obtain ⟨ad355,e355,hx355_0⟩:=Kd.at_int HR0_0.out x20_1 p355 q355;cases e355;replace hx355_0:=(HB.out.cell (World.block_lt_of_cell? w _ hx355_0)).trans hx355_0;replace p355:=eq_true p355;replace q355:=eq_true q355)|((with_reducible refine Qk (f:=116) rfl ?_);refine Q6 (some 34) rfl rfl Try.func116 (by kernel_rfl) rfl #[.int .i64 (rd l0_0 x20_1)] rfl (by (try simp only [List.map_toArray,List.map_cons,List.map_nil]);first|done|rfl|(simp only [List.length_drop,List.length_take];rfl)) ?_;(with_reducible refine (Qbv.calls k1 (rd l0_0 x20_1) t356 _ A16.out).mono ?_);rintro e w18 ⟨v357,rfl,ho0,hb⟩;refine ⟨_,rfl,?_⟩;have HO358:=Aside0.mk (Kd.R_lower ho0 (Qq (by repeat (first|(with_reducible first|exact HB.out|apply Qc|apply Qa|apply Qd|refine Qe ?_ GE351.out)|exact HB.out))));replace BK351:=Aside0.mk (Qu (g:=gb351) (o:= .cells #[.slice (some ad355) l0_0.length c0_0] 26 (0,0)) (by (with_reducible repeat (first|refine Qg ?_ _|refine Qh ?_|refine Qf ?_ _));exact BK351.out) hb);replace HB:=Aside0.mk (Qj (by repeat (first|(with_reducible first|exact HB.out|apply Qc|apply Qa|apply Qd|refine Qe ?_ GE351.out)|exact HB.out)) hb);(try clear hb);(try clear hb2);(try clear hk);(try clear hi);(try clear ho0);obtain ⟨Ao19,co19,eo19⟩:=Kd.R_slice HO358.out;subst eo19))
         go_loopg [36] k1 (fun kq v36 w'=> ∃ (x36_2:Int),v36= .int .i64 x36_2∧Aside0 (Q1.l1 kq l1 a2 a3 (rd l1 x20_1) l1 (l1.length:Int) x20_1 t356 (t356.length:Int) x36_2 l0_0=some r)∧Aside0 (kq≤k1)∧Aside0 (Kd.R (Kd.int .i64) 3 w' w.heap.size (fun _=>True) (.slice Ao19 t356.length co19) t356)∧Aside0 (w'.heap[gb351]? =some (.cells #[(.slice (some ad355) l0_0.length c0_0)] 26 (0,0)))∧Aside0 (Below w.heap.size w w'))
         case atStart=>exact ⟨(0),(by first|rfl|(simp;done)|(simp [*];done)),H',⟨Nat.le_refl _⟩,⟨by (with_reducible repeat (first|apply Kd.R_alloc|apply Kd.R_drewN|apply Kd.R_drew));exact HO358.out⟩,⟨by (with_reducible repeat (first|refine Qg ?_ _|refine Qh ?_|refine Qf ?_ _));exact BK351.out⟩,⟨by repeat (first|(with_reducible first|exact HB.out|apply Qc|apply Qa|apply Qd|refine Qe ?_ GE351.out)|exact HB.out)⟩⟩
         case round=>
          clear H'
          try clear c1
          try clear p2
          try clear p3
          try clear q3
          try clear hx3
          try clear c6
          try clear c6b0
          try clear c6b1
          try clear c7
          try clear c8
          try clear c10
          try clear c10b0
          try clear c11
          try clear c11b0
          try clear c12
          try clear c12b0
          try clear c14
          try clear c15
          try clear c15b0
          try clear hcz17_0
          try clear hcz8_0
          try clear hfz17_0
          try clear hfz8_0
          try clear hx353_0
          try clear hx355_0
          try clear p2
          try clear p353
          try clear p355
          try clear q353
          try clear q355
          obtain ⟨x36_2,rfl,HA,HK2,HO_34,BK351,HB⟩:=hrel;cases gk with
          |zero=>exact absurd HA.out (by simp [Q1.l1])
          |succ k2=>
           have H:=HA.out;clear HA;simp only [Q1.l1] at H
           by_cases c20:x36_2<(t356.length:Int)
           ·
            rw [if_pos c20] at H;have c20b0:decide (x36_2<(t356.length:Int))=true:=decide_eq_true c20;clear c20
            by_cases c21:0≤x36_2
            ·
             rw [if_pos c21] at H;have c21b0:decide (0≤x36_2)=true:=decide_eq_true c21;clear c21
             by_cases c22:x36_2<(t356.length:Int)
             ·
              rw [if_pos c22] at H;have c22b0:decide (x36_2<(t356.length:Int))=true:=decide_eq_true c22;clear c22
              by_cases c23:0≤(rd t356 x36_2)
              ·
               rw [if_pos c23] at H;have c23b0:decide (0≤(rd t356 x36_2))=true:=decide_eq_true c23;clear c23
               by_cases c24:(rd t356 x36_2)<(l1.length:Int)
               ·
                rw [if_pos c24] at H;have c24b0:decide ((rd t356 x36_2)<(l1.length:Int))=true:=decide_eq_true c24;clear c24
                by_cases c25:(rd l1 x20_1)<(wrap64 ((rd l1 (rd t356 x36_2))+a3))
                ·
                 rw [if_pos c25] at H;have c25b0:decide ((rd l1 x20_1)<(wrap64 ((rd l1 (rd t356 x36_2))+a3)))=true:=decide_eq_true c25;clear c25;obtain rfl:=Option.some.inj H;have p359:0≤(x36_2:Int):=of_decide_eq_true (by first|(with_reducible assumption)|assumption);have q359:x36_2<(t356.length:Int):=of_decide_eq_true (by first|(with_reducible assumption)|assumption);obtain ⟨ad359,e359,hx359_0⟩:=Kd.at_int (Kd.R_reads' HO_34.out).2.2 x36_2 p359 q359;cases e359;replace p359:=eq_true p359;replace q359:=eq_true q359;have p360:0≤((rd t356 x36_2):Int):=of_decide_eq_true (by first|(with_reducible assumption)|assumption);have q360:(rd t356 x36_2)<(l1.length:Int):=of_decide_eq_true (by first|(with_reducible assumption)|assumption);obtain ⟨ad360,e360,hx360_0⟩:=Kd.at_int HR1.out (rd t356 x36_2) p360 q360;obtain rfl:ad353=ad360:=(by injection e360)
                 replace hx360_0:=(HB.out.cell (World.block_lt_of_cell? w _ hx360_0)).trans hx360_0;replace p360:=eq_true p360;replace q360:=eq_true q360;go_wp2
                 go_ret
                 exact ⟨by first|rfl|(simp [Qm,Ql] <;>rfl)|(simp [*,Qm,Ql] <;>rfl),by repeat (first|(with_reducible first|exact HB.out|apply Qc|apply Qa|apply Qd|refine Qe ?_ GE351.out)|exact HB.out)⟩
                ·
                 rw [if_neg c25] at H;have c25b0:decide ((rd l1 x20_1)<(wrap64 ((rd l1 (rd t356 x36_2))+a3)))=false:=decide_eq_false c25;clear c25;have H':=Aside0.mk H;clear H;have p359:0≤(x36_2:Int):=of_decide_eq_true (by first|(with_reducible assumption)|assumption);have q359:x36_2<(t356.length:Int):=of_decide_eq_true (by first|(with_reducible assumption)|assumption);obtain ⟨ad359,e359,hx359_0⟩:=Kd.at_int (Kd.R_reads' HO_34.out).2.2 x36_2 p359 q359;cases e359;replace p359:=eq_true p359;replace q359:=eq_true q359;have p360:0≤((rd t356 x36_2):Int):=of_decide_eq_true (by first|(with_reducible assumption)|assumption);have q360:(rd t356 x36_2)<(l1.length:Int):=of_decide_eq_true (by first|(with_reducible assumption)|assumption);obtain ⟨ad360,e360,hx360_0⟩:=Kd.at_int HR1.out (rd t356 x36_2) p360 q360;obtain rfl:ad353=ad360:=(by injection e360)
                 replace hx360_0:=(HB.out.cell (World.block_lt_of_cell? w _ hx360_0)).trans hx360_0;replace p360:=eq_true p360;replace q360:=eq_true q360;go_wp2;go_roundg k2
                 case measure=>have:=HK1.out;have:=HK2.out;omega
                 case rel=>exact ⟨(wrap64 (x36_2+1)),(by first|rfl|(simp;done)|(simp [*];done)),H',⟨by have:=HK1.out;have:=HK2.out;omega⟩,⟨by (with_reducible repeat (first|apply Kd.R_alloc|apply Kd.R_drewN|apply Kd.R_drew));exact HO_34.out⟩,⟨by (with_reducible repeat (first|refine Qg ?_ _|refine Qh ?_|refine Qf ?_ _));exact BK351.out⟩,⟨by repeat (first|(with_reducible first|exact HB.out|apply Qc|apply Qa|apply Qd|refine Qe ?_ GE351.out)|exact HB.out)⟩⟩
               ·
                rw [if_neg c24] at H;exact absurd H (by simp)
              ·
               rw [if_neg c23] at H;exact absurd H (by simp)
             ·
              rw [if_neg c22] at H;exact absurd H (by simp)
            ·
             rw [if_neg c21] at H;exact absurd H (by simp)
           ·
            rw [if_neg c20] at H;have c20b0:decide (x36_2<(t356.length:Int))=false:=decide_eq_false c20;clear c20;have H':=Aside0.mk H;clear H;go_wp2;go_roundg k2
            case measure=>have:=HK1.out;have:=HK2.out;omega
            case rel=>exact ⟨(wrap64 (x20_1+1)),(by first|rfl|(simp;done)|(simp [*];done)),H',⟨by have:=HK1.out;have:=HK2.out;omega⟩,⟨by (with_reducible repeat (first|refine Qg ?_ _|refine Qh ?_|refine Qf ?_ _));exact BK351.out⟩,⟨by repeat (first|(with_reducible first|exact HB.out|apply Qc|apply Qa|apply Qd|refine Qe ?_ GE351.out)|exact HB.out)⟩⟩
        ·
         rw [if_neg c15] at H;exact absurd H (by simp)
       ·
        replace c14:=Bool.eq_false_iff.mpr c14;subst c14;have H1:(some false)=some r:=by rw [if_neg (show ¬ (false=true) by decide)] at H;exact H
        clear H;have H:=H1;clear H1;obtain rfl:=Option.some.inj H;have p353:0≤(x20_1:Int):=of_decide_eq_true (by first|(with_reducible assumption)|assumption);have q353:x20_1<(l1.length:Int):=of_decide_eq_true (by first|(with_reducible assumption)|assumption);obtain ⟨ad353,e353,hx353_0⟩:=Kd.at_int HR1.out x20_1 p353 q353;cases e353;replace hx353_0:=(HB.out.cell (World.block_lt_of_cell? w _ hx353_0)).trans hx353_0;replace p353:=eq_true p353;replace q353:=eq_true q353;go_wp2_with (first|((with_reducible refine Qk (f:=81) rfl ?_);refine Q6 (some 27) rfl rfl Try.func81 (by kernel_rfl) rfl #[.int .i64 (rd l1 x20_1), .int .i64 0, .int .i64 a2] rfl (by (try simp only [List.map_toArray,List.map_cons,List.map_nil]);first|done|rfl|(simp only [List.length_drop,List.length_take];rfl)) ?_;(with_reducible refine (Qcp.calls (rd l1 x20_1) 0 a2 false _ A13.out).mono ?_);rintro e w' ⟨rfl,⟨nd,rfl⟩⟩;refine ⟨_,rfl,?_⟩))
        go_ret
        exact ⟨by first|rfl|(simp [Qm,Ql] <;>rfl)|(simp [*,Qm,Ql] <;>rfl),by repeat (first|(with_reducible first|exact HB.out|apply Qc|apply Qa|apply Qd|refine Qe ?_ GE351.out)|exact HB.out)⟩
      ·
       rw [if_neg c12] at H;exact absurd H (by simp)
     ·
      rw [if_neg c11] at H;exact absurd H (by simp)
    ·
     rw [if_neg c10] at H;have c10b0:decide (x20_1<(l1.length:Int))=false:=decide_eq_false c10;clear c10;obtain rfl:=Option.some.inj H;go_wp2
     go_ret
     exact ⟨by first|rfl|(simp [Qm,Ql] <;>rfl)|(simp [*,Qm,Ql] <;>rfl),by repeat (first|(with_reducible first|exact HB.out|apply Qc|apply Qa|apply Qd|refine Qe ?_ GE351.out)|exact HB.out)⟩
 ·
  rw [if_neg c6] at H;have c6b0:((l1.length:Int)==t352)=false:=beq_eq_false_iff_ne.mpr c6;have c6b1:((l1.length:Int) !=t352)=true:=bne_iff_ne.mpr c6;obtain rfl:=Option.some.inj H;go_enter Try.func78,Try.ntmps78;go_wp2_with (first|((with_reducible refine Qbb (N:=4) rfl ?_);refine Qbg ?hg (N:=4) ?hd (cs:= #[.slice A0_0 l0_0.length c0_0]) (t:=26) ?hr ?_;(case hd=>rfl);(case hg=>rfl);(case hr=>first|(go_simp;done)|(go_simp;rfl));intro gb351 hg w26 hbox hb;have BK351:=Aside0.mk (hbox);have GW351:=Aside0.mk ((by rw [hg];exact (Qq (by repeat (first|(with_reducible first|exact HB.out|apply Qc|apply Qa|apply Qd)|exact HB.out))):w.heap.size≤gb351));have GE351:=GW351;replace HB:=Aside0.mk (Qj (by repeat (first|(with_reducible first|exact HB.out|apply Qc|apply Qa|apply Qd)|exact HB.out)) hb);clear hb hbox hg;have hcz27_0:w26.cell? ⟨gb351,0,none⟩=some (.slice A0_0 l0_0.length c0_0):=(Qx BK351.out 0).trans rfl;have hfz27_0:=Qp BK351.out 0)|((with_reducible refine Qk (f:=65) rfl ?_);refine Q6 (some 16) rfl rfl Try.func65 (by kernel_rfl) rfl #[.agg #[.slice A0_0 l0_0.length c0_0]] rfl (by (try simp only [List.map_toArray,List.map_cons,List.map_nil]);first|done|rfl|(simp only [List.length_drop,List.length_take];rfl)) ?_;(with_reducible refine (Qch.calls _ _ l0_0 t352 _ ?side1 ?side2 A5.out).mono ?_);(case side1=>repeat (first|exact (Kd.C_below HR0_0.out HB.out)|(with_reducible refine Kd.C_alloc ?_ _)|(with_reducible refine Kd.C_drewN ?_ _)|(with_reducible refine Kd.C_drew ?_)));(case side2=>exact HC0_0.out);rintro e w28 ⟨rfl,hb⟩;refine ⟨_,rfl,?_⟩;replace BK351:=Aside0.mk (Qu (g:=gb351) (o:= .cells #[.slice A0_0 l0_0.length c0_0] 26 (0,0)) (by (with_reducible repeat (first|refine Qg ?_ _|refine Qh ?_|refine Qf ?_ _));exact BK351.out) hb);replace HB:=Aside0.mk (Qj (by repeat (first|(with_reducible first|exact HB.out|apply Qc|apply Qa|apply Qd|refine Qe ?_ GE351.out)|exact HB.out)) hb);(try clear hb);(try clear hb2);(try clear hk);(try clear hi)))
  go_ret
  exact ⟨by first|rfl|(simp [Qm,Ql] <;>rfl)|(simp [*,Qm,Ql] <;>rfl),by repeat (first|(with_reducible first|exact HB.out|apply Qc|apply Qa|apply Qd|refine Qe ?_ GE351.out)|exact HB.out)⟩
def Qb9.f (k : Nat) (l0_0 : List Int) (l1 : List Int) (a2 : Int) : Option (Bool) := (Qcz.f k l0_0 a2).bind fun t362 => (if t362 = true then ((Q1.f k l0_0 l1 a2 0).bind fun t363 => (some t363)) else (some false))
theorem Qb9.mono : ∀ a0 a1 a2 k, LeO (Qb9.f k a0 a1 a2) (Qb9.f (k + 1) a0 a1 a2) := by
 intro a0 a1 a2 k;unfold Qb9.f
 repeat' first
  |(with_reducible exact Q1.mono _ _ _ _ _)
  |(with_reducible exact Qcz.mono _ _ _)
  |(with_reducible exact LeO.refl _)
  |(with_reducible exact LeO.none _)
  |(with_reducible refine LeO.ite ?_ ?_)
  |(with_reducible refine LeO.bind ?_ (fun _=> ?_))
  |exact Q1.mono _ _ _ _ _
  |exact Qcz.mono _ _ _
  |exact LeO.none _
  |refine LeO.ite ?_ ?_
  |refine LeO.bind ?_ (fun _=> ?_)
set_option maxHeartbeats 8000000 in
set_option maxRecDepth 100000 in
theorem Qb9.calls (k : Nat) (A0_0 : Option Addr) (c0_0 : Nat) (l0_0 : List Int) (A1 : Option Addr) (c1 : Nat) (l1 : List Int) (a2 : Int) (r : Bool) (w : World) (hr0_0 : Kd.C (Kd.int .i64) w A0_0 l0_0.length l0_0) (hc0_0 : l0_0.length ≤ c0_0) (hr1 : Kd.C (Kd.int .i64) w A1 l1.length l1) (hc1 : l1.length ≤ c1) (h : Qb9.f k l0_0 l1 a2 = some r) :
 Calls Try.prog 62 #[.agg #[.slice A0_0 l0_0.length c0_0], .slice A1 l1.length c1, .int .i64 a2] w fun e w'=>e= .returned (.bool r)∧Below w.heap.size w w':=by
 have hu26:=Try.underlying26;have HR0_0:=Aside0.mk hr0_0;have HC0_0:=Aside0.mk hc0_0;clear hr0_0 hc0_0;have HR1:=Aside0.mk hr1;have HC1:=Aside0.mk hc1;clear hr1 hc1;have HB:=Aside0.mk (Below.refl w.heap.size w);have H:((Qcz.f k l0_0 a2).bind fun t362=>(if t362=true then ((Q1.f k l0_0 l1 a2 0).bind fun t363=>(some t363)) else (some false)))=some r:=h;clear h;replace H:=Option.bind_eq_some_iff.mp H;obtain ⟨t362,A40,H⟩:=H;replace H:(if t362=true then ((Q1.f k l0_0 l1 a2 0).bind fun t363=>(some t363)) else (some false))=some r:=H;have A4:=Aside0.mk A40;clear A40
 by_cases c5:t362=true
 ·
  subst c5;have H1:((Q1.f k l0_0 l1 a2 0).bind fun t363=>(some t363))=some r:=by rw [if_pos rfl] at H;exact H
  clear H;have H:=H1;clear H1;replace H:=Option.bind_eq_some_iff.mp H;obtain ⟨t363,A60,H⟩:=H;replace H:(some t363)=some r:=H;have A6:=Aside0.mk A60;clear A60;obtain rfl:=Option.some.inj H;go_enter Try.func62,Try.ntmps62;go_wp2_with (first|((with_reducible refine Qbb (N:=3) rfl ?_);refine Qbg ?hg (N:=3) ?hd (cs:= #[.slice A0_0 l0_0.length c0_0]) (t:=26) ?hr ?_;(case hd=>rfl);(case hg=>rfl);(case hr=>first|(go_simp;done)|(go_simp;rfl));intro gb361 hg w7 hbox hb;have BK361:=Aside0.mk (hbox);have GW361:=Aside0.mk ((by rw [hg];exact (Qq (by repeat (first|(with_reducible first|exact HB.out|apply Qc|apply Qa|apply Qd)|exact HB.out))):w.heap.size≤gb361));have GE361:=GW361;replace HB:=Aside0.mk (Qj (by repeat (first|(with_reducible first|exact HB.out|apply Qc|apply Qa|apply Qd)|exact HB.out)) hb);clear hb hbox hg;have hcz8_0:w7.cell? ⟨gb361,0,none⟩=some (.slice A0_0 l0_0.length c0_0):=(Qx BK361.out 0).trans rfl;have hfz8_0:=Qp BK361.out 0)|((with_reducible refine Qk (f:=77) rfl ?_);refine Q6 (some 9) rfl rfl Try.func77 (by kernel_rfl) rfl #[.agg #[.slice A0_0 l0_0.length c0_0], .int .i64 a2] rfl (by (try simp only [List.map_toArray,List.map_cons,List.map_nil]);first|done|rfl|(simp only [List.length_drop,List.length_take];rfl)) ?_;(with_reducible refine (Qcz.calls k _ _ l0_0 a2 true _ ?side1 ?side2 A4.out).mono ?_);(case side1=>repeat (first|exact (Kd.C_below HR0_0.out HB.out)|(with_reducible refine Kd.C_alloc ?_ _)|(with_reducible refine Kd.C_drewN ?_ _)|(with_reducible refine Kd.C_drew ?_)));(case side2=>exact HC0_0.out);rintro e w9 ⟨rfl,hb⟩;refine ⟨_,rfl,?_⟩;replace BK361:=Aside0.mk (Qu (g:=gb361) (o:= .cells #[.slice A0_0 l0_0.length c0_0] 26 (0,0)) (by (with_reducible repeat (first|refine Qg ?_ _|refine Qh ?_|refine Qf ?_ _));exact BK361.out) hb);replace HB:=Aside0.mk (Qj (by repeat (first|(with_reducible first|exact HB.out|apply Qc|apply Qa|apply Qd|refine Qe ?_ GE361.out)|exact HB.out)) hb);(try clear hb);(try clear hb2);(try clear hk);(try clear hi);have hcz10_0:w9.cell? ⟨gb361,0,none⟩=some (.slice A0_0 l0_0.length c0_0):=(Qx BK361.out 0).trans rfl;have hfz10_0:=Qp BK361.out 0)|(go_at_call 78;(with_reducible refine (Q1.calls k _ _ l0_0 _ _ l1 a2 0 t363 _ ?side1 ?side2 ?side3 ?side4 A6.out).mono ?_);(case side1=>repeat (first|exact (Kd.C_below HR0_0.out HB.out)|(with_reducible refine Kd.C_alloc ?_ _)|(with_reducible refine Kd.C_drewN ?_ _)|(with_reducible refine Kd.C_drew ?_)));(case side2=>exact HC0_0.out);(case side3=>repeat (first|exact (Kd.C_below HR1.out HB.out)|(with_reducible refine Kd.C_alloc ?_ _)|(with_reducible refine Kd.C_drewN ?_ _)|(with_reducible refine Kd.C_drew ?_)));(case side4=>exact HC1.out);rintro e w11 ⟨rfl,hb⟩;replace BK361:=Aside0.mk (Qu (g:=gb361) (o:= .cells #[.slice A0_0 l0_0.length c0_0] 26 (0,0)) (by (with_reducible repeat (first|refine Qg ?_ _|refine Qh ?_|refine Qf ?_ _));exact BK361.out) hb);replace HB:=Aside0.mk (Qj (by repeat (first|(with_reducible first|exact HB.out|apply Qc|apply Qa|apply Qd|refine Qe ?_ GE361.out)|exact HB.out)) hb);(try clear hb);(try clear hb2);(try clear hk);(try clear hi)))
  go_ret
  exact ⟨by first|rfl|(simp [Qm,Ql] <;>rfl)|(simp [*,Qm,Ql] <;>rfl),by repeat (first|(with_reducible first|exact HB.out|apply Qc|apply Qa|apply Qd|refine Qe ?_ GE361.out)|exact HB.out)⟩
 ·
  replace c5:=Bool.eq_false_iff.mpr c5;subst c5;have H1:(some false)=some r:=by rw [if_neg (show ¬ (false=true) by decide)] at H;exact H
  clear H;have H:=H1;clear H1;obtain rfl:=Option.some.inj H;go_enter Try.func62,Try.ntmps62;go_wp2_with (first|((with_reducible refine Qbb (N:=3) rfl ?_);refine Qbg ?hg (N:=3) ?hd (cs:= #[.slice A0_0 l0_0.length c0_0]) (t:=26) ?hr ?_;(case hd=>rfl);(case hg=>rfl);(case hr=>first|(go_simp;done)|(go_simp;rfl));intro gb361 hg w12 hbox hb;have BK361:=Aside0.mk (hbox);have GW361:=Aside0.mk ((by rw [hg];exact (Qq (by repeat (first|(with_reducible first|exact HB.out|apply Qc|apply Qa|apply Qd)|exact HB.out))):w.heap.size≤gb361));have GE361:=GW361;replace HB:=Aside0.mk (Qj (by repeat (first|(with_reducible first|exact HB.out|apply Qc|apply Qa|apply Qd)|exact HB.out)) hb);clear hb hbox hg;have hcz13_0:w12.cell? ⟨gb361,0,none⟩=some (.slice A0_0 l0_0.length c0_0):=(Qx BK361.out 0).trans rfl;have hfz13_0:=Qp BK361.out 0)|((with_reducible refine Qk (f:=77) rfl ?_);refine Q6 (some 9) rfl rfl Try.func77 (by kernel_rfl) rfl #[.agg #[.slice A0_0 l0_0.length c0_0], .int .i64 a2] rfl (by (try simp only [List.map_toArray,List.map_cons,List.map_nil]);first|done|rfl|(simp only [List.length_drop,List.length_take];rfl)) ?_;(with_reducible refine (Qcz.calls k _ _ l0_0 a2 false _ ?side1 ?side2 A4.out).mono ?_);(case side1=>repeat (first|exact (Kd.C_below HR0_0.out HB.out)|(with_reducible refine Kd.C_alloc ?_ _)|(with_reducible refine Kd.C_drewN ?_ _)|(with_reducible refine Kd.C_drew ?_)));(case side2=>exact HC0_0.out);rintro e w14 ⟨rfl,hb⟩;refine ⟨_,rfl,?_⟩;replace BK361:=Aside0.mk (Qu (g:=gb361) (o:= .cells #[.slice A0_0 l0_0.length c0_0] 26 (0,0)) (by (with_reducible repeat (first|refine Qg ?_ _|refine Qh ?_|refine Qf ?_ _));exact BK361.out) hb);replace HB:=Aside0.mk (Qj (by repeat (first|(with_reducible first|exact HB.out|apply Qc|apply Qa|apply Qd|refine Qe ?_ GE361.out)|exact HB.out)) hb);(try clear hb);(try clear hb2);(try clear hk);(try clear hi)))
  go_ret
  exact ⟨by first|rfl|(simp [Qm,Ql] <;>rfl)|(simp [*,Qm,Ql] <;>rfl),by repeat (first|(with_reducible first|exact HB.out|apply Qc|apply Qa|apply Qd|refine Qe ?_ GE361.out)|exact HB.out)⟩
def Qb5.f (l0 : List Int) : Option (List Int) := if l0.length < 17592186044416 then some l0 else none
set_option maxHeartbeats 800000 in
set_option maxRecDepth 100000 in
theorem Qb5.calls (A0 : Option Addr) (c0 : Nat) (l0 : List Int) (r : List Int) (w : World) (hr0 : Kd.C (Kd.int .i64) w A0 l0.length l0) (hc0 : l0.length ≤ c0) (h : Qb5.f l0 = some r) :
 Calls Try.prog 66 #[.slice A0 l0.length c0] w fun e w'=> ∃ v0_:Value,e= .returned (v0_)∧Kd.R (Kd.int .i64) 3 w' w.heap.size (fun _=>True) v0_ r∧Below w.heap.size w w':=by
 unfold Qb5.f at h
 split at h
 ·
  rename_i hl;obtain rfl:=Option.some.inj h;clear h;have HL:=Aside0.mk hl;have HR0:=Aside0.mk hr0;clear hl hr0 hc0;cases A0 with
  |none=>
   have hn:l0= [] :=by
    apply Classical.byContradiction;intro hne;obtain ⟨_,e,_⟩:=HR0.out.2.2 (List.length_pos_iff.mpr hne);cases e
   subst hn;have hs:=Lib.run_eql_slice_nil (P:=Try.prog) w 24 3 none 0 c0 0 0 Try.underlying24;go_enter Try.func66,Try.ntmps66;go_wp2
   go_ret
   exact ⟨_,rfl,Kd.R_nil _ _ _ _ _,Below.refl _ _⟩
  |some a=>
   have hs:=Lib.run_eql_slice_nil (P:=Try.prog) w 24 3 (some a) l0.length c0 0 0 Try.underlying24;go_enter Try.func66,Try.ntmps66;go_wp2_with (first|((with_reducible refine Qbb (N:=5) rfl ?_);refine Kd.R_lit (Kd.int .i64) _ 3 ?hg (N:=5) ?hd (xs:=([] :List Int)) (inner:= []) (ok:=fun _=>True) (okp:=fun _=>True) ?hr ?hp (fun _ hk=>hk) trivial (Below.refl _ _) (Nat.le_refl _) (by simp) ?_;(case hd=>rfl);(case hg=>rfl);(case hr=>first|(go_simp;done)|(go_simp;rfl));(case hp=>exact (Reps.none _ _));intro v109 w3 ho4 hb hg_ hnew_;clear hg_ hnew_;have HB:=Aside0.mk hb;have HO:=Aside0.mk ho4;clear hb ho4)|((with_reducible refine Qcv (b:= .append) (xs:= #[.tmp 5, .tmp 6]) rfl ?_);at_builtin;refine Kd.R_append_rows (Kd.int .i64) (w0:=w) w.heap.size rfl (.tmp 5) (.tmp 6) 24 3 (.int .i64 0) 8 rfl Try.underlying24 Qec rfl (by decide) (by omega) v109 [] l0 _ _ _ (fun _=>True) (fun _=>False) rfl rfl ?aO ?aR (fun _ _ h=>h) (fun _ h=>h.elim) ?aF ?aB ?aS ?aL ?_;(case aR=>exact (Kd.C_below HR0.out HB.out));(case aB=>exact HB.out);(case aF=>exact (fun _ _=>trivial));(case aO=>exact HO.out);(case aS=>exact HB.out.size);(case aL=>have:=HL.out;simp;omega);intro v112 w5 ho hb hg hat;have HB2:=Aside0.mk hb;have HO2:=Aside0.mk ho;clear ho hb hg hat))
   go_ret
   exact ⟨_,rfl,by simpa using HO2.out,HB2.out⟩
 ·
  exact absurd h (by simp)
end Go.Proofs.Ytkgngggppcmpfaa.L
end
