/- Laws about the given program: the law FnNumbersToggled answers true for every input that its row lets in; no condition is added to the given statement. Contracts of the Go functions that it reaches, and the plain proof over lists. -/
import Derived.Test.YtkgngggppcmpfaaWFnNumbersToggled0
import Derived.Test.YtkgngggppcmpfaaKFnNumbersToggled0
import Derived.Test.YtkgngggppcmpfaaKFnNumbersToggled1
section
namespace Go.Proofs.Ytkgngggppcmpfaa.L
open Go.RowKit Go.Proofs.YtkgngggppcmpfaaW.PrintWords Go.Proofs.YtkgngggppcmpfaaW.PrintLast Go.Proofs.YtkgngggppcmpfaaW.PrintMore Go.Proofs.Ytkgngggppcmpfaa.X
attribute [local go_sem] max2_int min2_int max_two min_two max_three min_three max_four min_four
set_option linter.unusedVariables false
set_option linter.unusedSimpArgs false
mutual
def spec_poRectangle.l0 : Nat → Int → Int → List (List Int) → Int → Option (List Int)
 |0,_,_,_,_=>none
 |k+1,x0,x1,x5,x6=>if x6<x0 then (spec_poRectangle.l1 k x0 x1 x5 x6 0) else ((spec_poFrom.f k (wrap64 (x0*x1)) x5).bind fun t220=>(some t220))
def spec_poRectangle.l1 : Nat → Int → Int → List (List Int) → Int → Int → Option (List Int)
 |0,_,_,_,_,_=>none
 |k+1,x0,x1,x5,x6,x7=>if x7<x1 then (if (wrap64 (x6+1))<x0 then (if x5.length<5864062014805 then ((some (x5++ [(([wrap64 ((wrap64 (x1*x6))+x7),wrap64 ((wrap64 ((wrap64 (x1*x6))+x1))+x7)] :List Int))] :List (List Int))).bind fun y226=>(if (wrap64 (x7+1))<x1 then (if y226.length<5864062014805 then (spec_poRectangle.l1 k x0 x1 (y226++ [(([wrap64 ((wrap64 (x1*x6))+x7),wrap64 ((wrap64 ((wrap64 (x1*x6))+x7))+1)] :List Int))]) x6 (wrap64 (x7+1))) else (none)) else (spec_poRectangle.l1 k x0 x1 y226 x6 (wrap64 (x7+1))))) else (none)) else (if (wrap64 (x7+1))<x1 then (if x5.length<5864062014805 then (spec_poRectangle.l1 k x0 x1 (x5++ [(([wrap64 ((wrap64 (x1*x6))+x7),wrap64 ((wrap64 ((wrap64 (x1*x6))+x7))+1)] :List Int))]) x6 (wrap64 (x7+1))) else (none)) else (spec_poRectangle.l1 k x0 x1 x5 x6 (wrap64 (x7+1))))) else (spec_poRectangle.l0 k x0 x1 x5 (wrap64 (x6+1)))
end
def spec_poRectangle.f (k : Nat) (a0 : Int) (a1 : Int) : Option (List Int) := spec_poRectangle.l0 k a0 a1 ([] : List (List Int)) 0
theorem spec_poRectangle.mono_l : ∀ k, (∀ y0 y1 y2 y3, LeO (spec_poRectangle.l0 k y0 y1 y2 y3) (spec_poRectangle.l0 (k + 1) y0 y1 y2 y3)) ∧ (∀ y0 y1 y2 y3 y4, LeO (spec_poRectangle.l1 k y0 y1 y2 y3 y4) (spec_poRectangle.l1 (k + 1) y0 y1 y2 y3 y4))
 |0=>⟨fun _ _ _ _ r h=>by simp [spec_poRectangle.l0] at h,fun _ _ _ _ _ r h=>by simp [spec_poRectangle.l1] at h⟩
 |k+1=>by
  obtain ⟨ih0,ih1⟩:=spec_poRectangle.mono_l k;refine ⟨?_,?_⟩
  ·
   intro y0 y1 y2 y3;unfold spec_poRectangle.l0
   repeat' first
   |(with_reducible exact ih0 _ _ _ _)
   |(with_reducible exact ih1 _ _ _ _ _)
   |(with_reducible exact spec_poFrom.mono _ _ _)
   |(with_reducible exact LeO.refl _)
   |(with_reducible exact LeO.none _)
   |(with_reducible refine LeO.ite ?_ ?_)
   |(with_reducible refine LeO.bind ?_ (fun _=> ?_))
   |exact ih0 _ _ _ _
   |exact ih1 _ _ _ _ _
   |exact spec_poFrom.mono _ _ _
   |exact LeO.none _
   |refine LeO.ite ?_ ?_
   |refine LeO.bind ?_ (fun _=> ?_)
  ·
   intro y0 y1 y2 y3 y4;unfold spec_poRectangle.l1
   repeat' first
   |(with_reducible exact ih0 _ _ _ _)
   |(with_reducible exact ih1 _ _ _ _ _)
   |(with_reducible exact spec_poFrom.mono _ _ _)
   |(with_reducible exact LeO.refl _)
   |(with_reducible exact LeO.none _)
   |(with_reducible refine LeO.ite ?_ ?_)
   |(with_reducible refine LeO.bind ?_ (fun _=> ?_))
   |exact ih0 _ _ _ _
   |exact ih1 _ _ _ _ _
   |exact spec_poFrom.mono _ _ _
   |exact LeO.none _
   |refine LeO.ite ?_ ?_
   |refine LeO.bind ?_ (fun _=> ?_)
theorem spec_poRectangle.mono : ∀ a0 a1 k, LeO (spec_poRectangle.f k a0 a1) (spec_poRectangle.f (k + 1) a0 a1) := by
 intro a0 a1 k;obtain ⟨ih0,ih1⟩:=spec_poRectangle.mono_l k;unfold spec_poRectangle.f
 repeat' first
  |(with_reducible exact ih0 _ _ _ _)
  |(with_reducible exact ih1 _ _ _ _ _)
  |(with_reducible exact spec_poFrom.mono _ _ _)
  |(with_reducible exact LeO.refl _)
  |(with_reducible exact LeO.none _)
  |(with_reducible refine LeO.ite ?_ ?_)
  |(with_reducible refine LeO.bind ?_ (fun _=> ?_))
  |exact ih0 _ _ _ _
  |exact ih1 _ _ _ _ _
  |exact spec_poFrom.mono _ _ _
  |exact LeO.none _
  |refine LeO.ite ?_ ?_
  |refine LeO.bind ?_ (fun _=> ?_)
set_option maxHeartbeats 8000000 in
set_option maxRecDepth 100000 in
theorem spec_poRectangle.calls (k : Nat) (a0 : Int) (a1 : Int) (r : List Int) (w : World) (h : spec_poRectangle.f k a0 a1 = some r) :
 Calls Try.prog 57 #[.int .i64 a0, .int .i64 a1] w fun e w'=> ∃ v0_:Value,e= .returned (.agg #[v0_])∧Kd.R (Kd.int .i64) 3 w' w.heap.size (fun _=>True) v0_ r∧Below w.heap.size w w':=by
 have hu26:=Try.underlying26;have HB:=Aside0.mk (Below.refl w.heap.size w);have H:(spec_poRectangle.l0 k a0 a1 ([] :List (List Int)) 0)=some r:=h;clear h;have H':=Aside0.mk H;clear H;go_enter Try.func57,Try.ntmps57;go_wp2_with (first|(refine bE (N:=4) (cs:= #[.slice none 0 0]) (t:=26) ?_;intro gb219 hg w3 hbox hb;have BK219:=Aside0.mk (hbox);have GW219:=Aside0.mk ((by rw [hg];exact (below_size (uB HB)):w.heap.size≤gb219));have GE219:=GW219;replace HB:=Aside0.mk (below_step (uB HB) hb);clear hb hbox hg))
 go_loopg [5,6] k (fun kq v5 v6 w'=> ∃ (x5_1:List (List Int)) (x6_1:Int),v6= .int .i64 x6_1∧Aside0 (spec_poRectangle.l0 kq a0 a1 x5_1 x6_1=some r)∧Aside0 (kq≤k)∧Aside0 (Kd.S (Kd.slice 3 (Kd.int .i64)) 24 w' w.heap.size (fun _=>True) v5 x5_1)∧Aside0 (w'.heap[gb219]? =some (.cells #[(.slice none 0 0)] 26 (0,0)))∧Aside0 (Below w.heap.size w w'))
 case atStart=>exact ⟨(([] :List (List Int))),(0),(by first|rfl|(simp;done)|(simp [*];done)),H',⟨Nat.le_refl _⟩,⟨by first|exact Kd.S_nil _ _ _ _ _|exact Kd.N_nil _ _ _ _ _|exact Kd.V_nil _ _ _ _ _|exact Kd.Q_nil _ _ _ _ _|exact Kd.R_nil _ _ _ _ _⟩,⟨uK BK219⟩,⟨uB HB⟩⟩
 case round=>
  clear H'
  try clear p2
  obtain ⟨x5_1,x6_1,rfl,HA,HK1,HO_5,BK219,HB⟩:=hrel;cases gk with
  |zero=>exact absurd HA.out (by simp [spec_poRectangle.l0])
  |succ k1=>
   have H:=HA.out;clear HA;simp only [spec_poRectangle.l0] at H
   by_cases c4:x6_1<a0
   ·
    rw [if_pos c4] at H;have c4b0:=decide_eq_true c4;clear c4;have H':=Aside0.mk H;clear H;go_wp2
    go_loopg [5,7] k1 (fun kq v5 v7 w'=> ∃ (x5_2:List (List Int)) (x7_2:Int),v7= .int .i64 x7_2∧Aside0 (spec_poRectangle.l1 kq a0 a1 x5_2 x6_1 x7_2=some r)∧Aside0 (kq≤k1)∧Aside0 (Kd.S (Kd.slice 3 (Kd.int .i64)) 24 w' w.heap.size (fun _=>True) v5 x5_2)∧Aside0 (w'.heap[gb219]? =some (.cells #[(.slice none 0 0)] 26 (0,0)))∧Aside0 (Below w.heap.size w w'))
    case atStart=>exact ⟨(x5_1),(0),(by first|rfl|(simp;done)|(simp [*];done)),H',⟨Nat.le_refl _⟩,⟨uS HO_5⟩,⟨uK BK219⟩,⟨uB HB⟩⟩
    case round=>
     clear H'
     try clear p2
     try clear c4
     try clear c4b0
     try clear p2
     obtain ⟨x5_2,x7_2,rfl,HA,HK2,HO_5,BK219,HB⟩:=hrel;cases gk with
     |zero=>exact absurd HA.out (by simp [spec_poRectangle.l1])
     |succ k2=>
      have H:=HA.out;clear HA;simp only [spec_poRectangle.l1] at H
      by_cases c5:x7_2<a1
      ·
       rw [if_pos c5] at H;have c5b0:=decide_eq_true c5;clear c5
       by_cases c6:(wrap64 (x6_1+1))<a0
       ·
        rw [if_pos c6] at H;have c6b0:=decide_eq_true c6;clear c6;obtain ⟨y223,hy223⟩: ∃ y_:List Int,y_=(([wrap64 ((wrap64 (a1*x6_1))+x7_2),wrap64 ((wrap64 ((wrap64 (a1*x6_1))+a1))+x7_2)] :List Int)):=⟨_,rfl⟩
        replace H:(if x5_2.length<5864062014805 then ((some (x5_2++ [y223] :List (List Int))).bind fun y226=>(if (wrap64 (x7_2+1))<a1 then (if y226.length<5864062014805 then (spec_poRectangle.l1 k2 a0 a1 (y226++ [(([wrap64 ((wrap64 (a1*x6_1))+x7_2),wrap64 ((wrap64 ((wrap64 (a1*x6_1))+x7_2))+1)] :List Int))]) x6_1 (wrap64 (x7_2+1))) else (none)) else (spec_poRectangle.l1 k2 a0 a1 y226 x6_1 (wrap64 (x7_2+1))))) else (none))=some r:=by first|(rw [hy223];with_reducible exact H)|(have H2_:=(Option.bind_some _ _).symm.trans H;rw [hy223];with_reducible exact H2_)|(have H2_:=(Option.bind_some _ _).symm.trans H;with_reducible exact H2_)|with_reducible exact H|(rw [hy223];exact H)|exact H
        have Ny223:=Aside0.mk hy223;clear hy223
        by_cases c7:x5_2.length<5864062014805
        ·
         rw [if_pos c7] at H;have LMc7:=Aside0.mk c7;clear c7;obtain ⟨y226,hy226⟩: ∃ y_:List (List Int),y_=(x5_2++ [y223]):=⟨_,rfl⟩
         replace H:(if (wrap64 (x7_2+1))<a1 then (if y226.length<5864062014805 then (spec_poRectangle.l1 k2 a0 a1 (y226++ [(([wrap64 ((wrap64 (a1*x6_1))+x7_2),wrap64 ((wrap64 ((wrap64 (a1*x6_1))+x7_2))+1)] :List Int))]) x6_1 (wrap64 (x7_2+1))) else (none)) else (spec_poRectangle.l1 k2 a0 a1 y226 x6_1 (wrap64 (x7_2+1))))=some r:=by first|(rw [hy226];with_reducible exact H)|(have H2_:=(Option.bind_some _ _).symm.trans H;rw [hy226];with_reducible exact H2_)|(have H2_:=(Option.bind_some _ _).symm.trans H;with_reducible exact H2_)|with_reducible exact H|(rw [hy226];exact H)|exact H
         have Ny226:=Aside0.mk hy226;clear hy226
         by_cases c8:(wrap64 (x7_2+1))<a1
         ·
          rw [if_pos c8] at H;have c8b0:=decide_eq_true c8;clear c8;obtain ⟨y229,hy229⟩: ∃ y_:List Int,y_=(([wrap64 ((wrap64 (a1*x6_1))+x7_2),wrap64 ((wrap64 ((wrap64 (a1*x6_1))+x7_2))+1)] :List Int)):=⟨_,rfl⟩
          replace H:(if y226.length<5864062014805 then (spec_poRectangle.l1 k2 a0 a1 (y226++ [y229]) x6_1 (wrap64 (x7_2+1))) else (none))=some r:=by first|(rw [hy229];with_reducible exact H)|(have H2_:=(Option.bind_some _ _).symm.trans H;rw [hy229];with_reducible exact H2_)|(have H2_:=(Option.bind_some _ _).symm.trans H;with_reducible exact H2_)|with_reducible exact H|(rw [hy229];exact H)|exact H
          have Ny229:=Aside0.mk hy229;clear hy229
          by_cases c9:y226.length<5864062014805
          ·
           rw [if_pos c9] at H;have LMc9:=Aside0.mk c9;clear c9;obtain ⟨y232,hy232⟩: ∃ y_:List (List Int),y_=(y226++ [y229]):=⟨_,rfl⟩
           replace H:(spec_poRectangle.l1 k2 a0 a1 y232 x6_1 (wrap64 (x7_2+1)))=some r:=by first|(rw [hy232];with_reducible exact H)|(have H2_:=(Option.bind_some _ _).symm.trans H;rw [hy232];with_reducible exact H2_)|(have H2_:=(Option.bind_some _ _).symm.trans H;with_reducible exact H2_)|with_reducible exact H|(rw [hy232];exact H)|exact H
           have Ny232:=Aside0.mk hy232;clear hy232;have H':=Aside0.mk H;clear H;go_wp2_with (first|((with_reducible refine gate_dst (N:=35) rfl ?_);refine Kd.R_lit (Kd.int .i64) _ 3 ?hg (N:=35) ?hd (xs:=([wrap64 ((wrap64 (a1*x6_1))+x7_2),wrap64 ((wrap64 ((wrap64 (a1*x6_1))+a1))+x7_2)] :List Int)) (inner:= [.int .i64 (wrap64 ((wrap64 (a1*x6_1))+x7_2)), .int .i64 (wrap64 ((wrap64 ((wrap64 (a1*x6_1))+a1))+x7_2))]) (ok:=fun _=>True) (okp:=fun _=>True) ?hr ?hp (fun _ hk=>hk) trivial (Below.refl _ _) (Nat.le_refl _) (by simp) ?_;(case hd=>rfl);(case hg=>rfl);(case hr=>first|(go_simp;done)|(go_simp;rfl));(case hp=>exact (Reps.one (show Kd.M (Kd.int .i64) _ _ _ (wrap64 ((wrap64 (a1*x6_1))+x7_2)) [.int .i64 (wrap64 ((wrap64 (a1*x6_1))+x7_2))] from rfl) (Reps.one (show Kd.M (Kd.int .i64) _ _ _ (wrap64 ((wrap64 ((wrap64 (a1*x6_1))+a1))+x7_2)) [.int .i64 (wrap64 ((wrap64 ((wrap64 (a1*x6_1))+a1))+x7_2))] from rfl) (Reps.none _ _))));intro v224 w10 ho11 hb hg_ hnew_;clear hg_ hnew_;(first|rw [←Ny223.out] at ho11|(simp only [Int.reduceToNat] at ho11;rw [←Ny223.out] at ho11));replace HO_5:=Aside0.mk (Kd.S_elder' (uS HO_5) (Kd.R_base ho11) hb);have HO225:=Aside0.mk (Kd.R_lower ho11 (below_size (uB HB)));replace BK219:=Aside0.mk (blk_below (uK BK219) hb);replace HB:=Aside0.mk (below_step (uB HB) hb);clear hb ho11;obtain ⟨Ao13,co13,eo13⟩:=Kd.R_slice HO225.out;subst eo13)|((with_reducible refine gate_builtin (b:= .append) (xs:= #[.tmp 22, .tmp 36]) rfl ?_);at_builtin;refine Kd.S_append (Kd.slice 3 (Kd.int .i64)) (w0:=w) w.heap.size rfl (.tmp 22) (.tmp 36) 29 24 (.slice none 0 0) 24 rfl Try.underlying29 info24 rfl (by decide) (by omega) u5 x5_2 y223 [.slice Ao13 y223.length co13] (fun _=>True) (fun k_=>some k_=(.slice Ao13 y223.length co13:Value).ownBlock) rfl rfl ?aP (fun k_ hk_=>((Kd.R_mono (ok':=fun k_=>((fun _=>True)) k_∧some k_≠(u5:Value).ownBlock) (Kd.R_apart' (HO225.out) (Kd.S_typed HO_5.out) (by decide)) (fun k_ hk=>⟨trivial,hk.2⟩))).1 k_ hk_.symm) ?aF ?aO ?aB ?aS ?aL ?_;(case aP=>exact Kd.M_row (Kd.R_mono (Kd.R_tight rfl (Kd.R_mono (ok':=fun k_=>((fun _=>True)) k_∧some k_≠(u5:Value).ownBlock) (Kd.R_apart' (HO225.out) (Kd.S_typed HO_5.out) (by decide)) (fun k_ hk=>⟨trivial,hk.2⟩))) (fun _ h_=>h_)));(case aB=>exact (uB HB));(case aF=>exact (fun _ _=>trivial));(case aO=>exact (by (with_reducible repeat (first|apply Kd.S_alloc|apply Kd.S_drewN|apply Kd.S_drew));exact Kd.S_mono HO_5.out (fun k_ hk=>⟨trivial,fun e_=>hk.2 e_⟩)));(case aS=>exact (below_size (uB HB)));(case aL=>have:=LMc7.out;omega);intro v227 w12 ho hb hg hat;rw [←Ny226.out] at ho;replace BK219:=Aside0.mk (blk_grown (uK BK219) hg (Kd.S_ne HO_5.out BK219.out (by decide)));replace HB:=Aside0.mk (hb);have HO228:=Aside0.mk (ho);clear HO_5 HO225;clear ho hb hg hat)|((with_reducible refine gate_dst (N:=54) rfl ?_);refine Kd.R_lit (Kd.int .i64) _ 3 ?hg (N:=54) ?hd (xs:=([wrap64 ((wrap64 (a1*x6_1))+x7_2),wrap64 ((wrap64 ((wrap64 (a1*x6_1))+x7_2))+1)] :List Int)) (inner:= [.int .i64 (wrap64 ((wrap64 (a1*x6_1))+x7_2)), .int .i64 (wrap64 ((wrap64 ((wrap64 (a1*x6_1))+x7_2))+1))]) (ok:=fun _=>True) (okp:=fun _=>True) ?hr ?hp (fun _ hk=>hk) trivial (Below.refl _ _) (Nat.le_refl _) (by simp) ?_;(case hd=>rfl);(case hg=>rfl);(case hr=>first|(go_simp;done)|(go_simp;rfl));(case hp=>exact (Reps.one (show Kd.M (Kd.int .i64) _ _ _ (wrap64 ((wrap64 (a1*x6_1))+x7_2)) [.int .i64 (wrap64 ((wrap64 (a1*x6_1))+x7_2))] from rfl) (Reps.one (show Kd.M (Kd.int .i64) _ _ _ (wrap64 ((wrap64 ((wrap64 (a1*x6_1))+x7_2))+1)) [.int .i64 (wrap64 ((wrap64 ((wrap64 (a1*x6_1))+x7_2))+1))] from rfl) (Reps.none _ _))));intro v230 w14 ho15 hb hg_ hnew_;clear hg_ hnew_;(first|rw [←Ny229.out] at ho15|(simp only [Int.reduceToNat] at ho15;rw [←Ny229.out] at ho15));replace HO228:=Aside0.mk (Kd.S_elder' (uS HO228) (Kd.R_base ho15) hb);have HO231:=Aside0.mk (Kd.R_lower ho15 (below_size (uB HB)));replace BK219:=Aside0.mk (blk_below (uK BK219) hb);replace HB:=Aside0.mk (below_step (uB HB) hb);clear hb ho15;obtain ⟨Ao17,co17,eo17⟩:=Kd.R_slice HO231.out;subst eo17)|((with_reducible refine gate_builtin (b:= .append) (xs:= #[.tmp 42, .tmp 55]) rfl ?_);at_builtin;refine Kd.S_append (Kd.slice 3 (Kd.int .i64)) (w0:=w) w.heap.size rfl (.tmp 42) (.tmp 55) 29 24 (.slice none 0 0) 24 rfl Try.underlying29 info24 rfl (by decide) (by omega) v227 y226 y229 [.slice Ao17 y229.length co17] (fun _=>True) (fun k_=>some k_=(.slice Ao17 y229.length co17:Value).ownBlock) rfl rfl ?aP (fun k_ hk_=>((Kd.R_mono (ok':=fun k_=>((fun _=>True)) k_∧some k_≠(v227:Value).ownBlock) (Kd.R_apart' (HO231.out) (Kd.S_typed HO228.out) (by decide)) (fun k_ hk=>⟨trivial,hk.2⟩))).1 k_ hk_.symm) ?aF ?aO ?aB ?aS ?aL ?_;(case aP=>exact Kd.M_row (Kd.R_mono (Kd.R_tight rfl (Kd.R_mono (ok':=fun k_=>((fun _=>True)) k_∧some k_≠(v227:Value).ownBlock) (Kd.R_apart' (HO231.out) (Kd.S_typed HO228.out) (by decide)) (fun k_ hk=>⟨trivial,hk.2⟩))) (fun _ h_=>h_)));(case aB=>exact (uB HB));(case aF=>exact (fun _ _=>trivial));(case aO=>exact (by (with_reducible repeat (first|apply Kd.S_alloc|apply Kd.S_drewN|apply Kd.S_drew));exact Kd.S_mono HO228.out (fun k_ hk=>⟨trivial,fun e_=>hk.2 e_⟩)));(case aS=>exact (below_size (uB HB)));(case aL=>have:=LMc9.out;omega);intro v233 w16 ho hb hg hat;rw [←Ny232.out] at ho;replace BK219:=Aside0.mk (blk_grown (uK BK219) hg (Kd.S_ne HO228.out BK219.out (by decide)));replace HB:=Aside0.mk (hb);have HO234:=Aside0.mk (ho);clear HO228 HO231;clear ho hb hg hat))
           go_roundg k2
           case measure=>have:=HK1.out;have:=HK2.out;omega
           case rel=>exact ⟨(y232),(wrap64 (x7_2+1)),(by first|rfl|(simp;done)|(simp [*];done)),H',⟨by have:=HK1.out;have:=HK2.out;omega⟩,⟨uS HO234⟩,⟨uK BK219⟩,⟨uB HB⟩⟩
          ·
           rw [if_neg c9] at H;exact absurd H (by simp)
         ·
          rw [if_neg c8] at H;have c8b0:=decide_eq_false c8;clear c8;have H':=Aside0.mk H;clear H;go_wp2_with (first|((with_reducible refine gate_dst (N:=35) rfl ?_);refine Kd.R_lit (Kd.int .i64) _ 3 ?hg (N:=35) ?hd (xs:=([wrap64 ((wrap64 (a1*x6_1))+x7_2),wrap64 ((wrap64 ((wrap64 (a1*x6_1))+a1))+x7_2)] :List Int)) (inner:= [.int .i64 (wrap64 ((wrap64 (a1*x6_1))+x7_2)), .int .i64 (wrap64 ((wrap64 ((wrap64 (a1*x6_1))+a1))+x7_2))]) (ok:=fun _=>True) (okp:=fun _=>True) ?hr ?hp (fun _ hk=>hk) trivial (Below.refl _ _) (Nat.le_refl _) (by simp) ?_;(case hd=>rfl);(case hg=>rfl);(case hr=>first|(go_simp;done)|(go_simp;rfl));(case hp=>exact (Reps.one (show Kd.M (Kd.int .i64) _ _ _ (wrap64 ((wrap64 (a1*x6_1))+x7_2)) [.int .i64 (wrap64 ((wrap64 (a1*x6_1))+x7_2))] from rfl) (Reps.one (show Kd.M (Kd.int .i64) _ _ _ (wrap64 ((wrap64 ((wrap64 (a1*x6_1))+a1))+x7_2)) [.int .i64 (wrap64 ((wrap64 ((wrap64 (a1*x6_1))+a1))+x7_2))] from rfl) (Reps.none _ _))));intro v224 w18 ho19 hb hg_ hnew_;clear hg_ hnew_;(first|rw [←Ny223.out] at ho19|(simp only [Int.reduceToNat] at ho19;rw [←Ny223.out] at ho19));replace HO_5:=Aside0.mk (Kd.S_elder' (uS HO_5) (Kd.R_base ho19) hb);have HO225:=Aside0.mk (Kd.R_lower ho19 (below_size (uB HB)));replace BK219:=Aside0.mk (blk_below (uK BK219) hb);replace HB:=Aside0.mk (below_step (uB HB) hb);clear hb ho19;obtain ⟨Ao21,co21,eo21⟩:=Kd.R_slice HO225.out;subst eo21)|((with_reducible refine gate_builtin (b:= .append) (xs:= #[.tmp 22, .tmp 36]) rfl ?_);at_builtin;refine Kd.S_append (Kd.slice 3 (Kd.int .i64)) (w0:=w) w.heap.size rfl (.tmp 22) (.tmp 36) 29 24 (.slice none 0 0) 24 rfl Try.underlying29 info24 rfl (by decide) (by omega) u5 x5_2 y223 [.slice Ao21 y223.length co21] (fun _=>True) (fun k_=>some k_=(.slice Ao21 y223.length co21:Value).ownBlock) rfl rfl ?aP (fun k_ hk_=>((Kd.R_mono (ok':=fun k_=>((fun _=>True)) k_∧some k_≠(u5:Value).ownBlock) (Kd.R_apart' (HO225.out) (Kd.S_typed HO_5.out) (by decide)) (fun k_ hk=>⟨trivial,hk.2⟩))).1 k_ hk_.symm) ?aF ?aO ?aB ?aS ?aL ?_;(case aP=>exact Kd.M_row (Kd.R_mono (Kd.R_tight rfl (Kd.R_mono (ok':=fun k_=>((fun _=>True)) k_∧some k_≠(u5:Value).ownBlock) (Kd.R_apart' (HO225.out) (Kd.S_typed HO_5.out) (by decide)) (fun k_ hk=>⟨trivial,hk.2⟩))) (fun _ h_=>h_)));(case aB=>exact (uB HB));(case aF=>exact (fun _ _=>trivial));(case aO=>exact (by (with_reducible repeat (first|apply Kd.S_alloc|apply Kd.S_drewN|apply Kd.S_drew));exact Kd.S_mono HO_5.out (fun k_ hk=>⟨trivial,fun e_=>hk.2 e_⟩)));(case aS=>exact (below_size (uB HB)));(case aL=>have:=LMc7.out;omega);intro v227 w20 ho hb hg hat;rw [←Ny226.out] at ho;replace BK219:=Aside0.mk (blk_grown (uK BK219) hg (Kd.S_ne HO_5.out BK219.out (by decide)));replace HB:=Aside0.mk (hb);have HO228:=Aside0.mk (ho);clear HO_5 HO225;clear ho hb hg hat));go_roundg k2
          case measure=>have:=HK1.out;have:=HK2.out;omega
          case rel=>exact ⟨(y226),(wrap64 (x7_2+1)),(by first|rfl|(simp;done)|(simp [*];done)),H',⟨by have:=HK1.out;have:=HK2.out;omega⟩,⟨uS HO228⟩,⟨uK BK219⟩,⟨uB HB⟩⟩
        ·
         rw [if_neg c7] at H;exact absurd H (by simp)
       ·
        rw [if_neg c6] at H;have c6b0:=decide_eq_false c6;clear c6
        by_cases c22:(wrap64 (x7_2+1))<a1
        ·
         rw [if_pos c22] at H;have c22b0:=decide_eq_true c22;clear c22;obtain ⟨y235,hy235⟩: ∃ y_:List Int,y_=(([wrap64 ((wrap64 (a1*x6_1))+x7_2),wrap64 ((wrap64 ((wrap64 (a1*x6_1))+x7_2))+1)] :List Int)):=⟨_,rfl⟩
         replace H:(if x5_2.length<5864062014805 then (spec_poRectangle.l1 k2 a0 a1 (x5_2++ [y235]) x6_1 (wrap64 (x7_2+1))) else (none))=some r:=by first|(rw [hy235];with_reducible exact H)|(have H2_:=(Option.bind_some _ _).symm.trans H;rw [hy235];with_reducible exact H2_)|(have H2_:=(Option.bind_some _ _).symm.trans H;with_reducible exact H2_)|with_reducible exact H|(rw [hy235];exact H)|exact H
         have Ny235:=Aside0.mk hy235;clear hy235
         by_cases c23:x5_2.length<5864062014805
         ·
          rw [if_pos c23] at H;have LMc23:=Aside0.mk c23;clear c23;obtain ⟨y238,hy238⟩: ∃ y_:List (List Int),y_=(x5_2++ [y235]):=⟨_,rfl⟩
          replace H:(spec_poRectangle.l1 k2 a0 a1 y238 x6_1 (wrap64 (x7_2+1)))=some r:=by first|(rw [hy238];with_reducible exact H)|(have H2_:=(Option.bind_some _ _).symm.trans H;rw [hy238];with_reducible exact H2_)|(have H2_:=(Option.bind_some _ _).symm.trans H;with_reducible exact H2_)|with_reducible exact H|(rw [hy238];exact H)|exact H
          have Ny238:=Aside0.mk hy238;clear hy238;have H':=Aside0.mk H;clear H;go_wp2_with (first|((with_reducible refine gate_dst (N:=54) rfl ?_);refine Kd.R_lit (Kd.int .i64) _ 3 ?hg (N:=54) ?hd (xs:=([wrap64 ((wrap64 (a1*x6_1))+x7_2),wrap64 ((wrap64 ((wrap64 (a1*x6_1))+x7_2))+1)] :List Int)) (inner:= [.int .i64 (wrap64 ((wrap64 (a1*x6_1))+x7_2)), .int .i64 (wrap64 ((wrap64 ((wrap64 (a1*x6_1))+x7_2))+1))]) (ok:=fun _=>True) (okp:=fun _=>True) ?hr ?hp (fun _ hk=>hk) trivial (Below.refl _ _) (Nat.le_refl _) (by simp) ?_;(case hd=>rfl);(case hg=>rfl);(case hr=>first|(go_simp;done)|(go_simp;rfl));(case hp=>exact (Reps.one (show Kd.M (Kd.int .i64) _ _ _ (wrap64 ((wrap64 (a1*x6_1))+x7_2)) [.int .i64 (wrap64 ((wrap64 (a1*x6_1))+x7_2))] from rfl) (Reps.one (show Kd.M (Kd.int .i64) _ _ _ (wrap64 ((wrap64 ((wrap64 (a1*x6_1))+x7_2))+1)) [.int .i64 (wrap64 ((wrap64 ((wrap64 (a1*x6_1))+x7_2))+1))] from rfl) (Reps.none _ _))));intro v236 w24 ho25 hb hg_ hnew_;clear hg_ hnew_;(first|rw [←Ny235.out] at ho25|(simp only [Int.reduceToNat] at ho25;rw [←Ny235.out] at ho25));replace HO_5:=Aside0.mk (Kd.S_elder' (uS HO_5) (Kd.R_base ho25) hb);have HO237:=Aside0.mk (Kd.R_lower ho25 (below_size (uB HB)));replace BK219:=Aside0.mk (blk_below (uK BK219) hb);replace HB:=Aside0.mk (below_step (uB HB) hb);clear hb ho25;obtain ⟨Ao27,co27,eo27⟩:=Kd.R_slice HO237.out;subst eo27)|((with_reducible refine gate_builtin (b:= .append) (xs:= #[.tmp 42, .tmp 55]) rfl ?_);at_builtin;refine Kd.S_append (Kd.slice 3 (Kd.int .i64)) (w0:=w) w.heap.size rfl (.tmp 42) (.tmp 55) 29 24 (.slice none 0 0) 24 rfl Try.underlying29 info24 rfl (by decide) (by omega) u5 x5_2 y235 [.slice Ao27 y235.length co27] (fun _=>True) (fun k_=>some k_=(.slice Ao27 y235.length co27:Value).ownBlock) rfl rfl ?aP (fun k_ hk_=>((Kd.R_mono (ok':=fun k_=>((fun _=>True)) k_∧some k_≠(u5:Value).ownBlock) (Kd.R_apart' (HO237.out) (Kd.S_typed HO_5.out) (by decide)) (fun k_ hk=>⟨trivial,hk.2⟩))).1 k_ hk_.symm) ?aF ?aO ?aB ?aS ?aL ?_;(case aP=>exact Kd.M_row (Kd.R_mono (Kd.R_tight rfl (Kd.R_mono (ok':=fun k_=>((fun _=>True)) k_∧some k_≠(u5:Value).ownBlock) (Kd.R_apart' (HO237.out) (Kd.S_typed HO_5.out) (by decide)) (fun k_ hk=>⟨trivial,hk.2⟩))) (fun _ h_=>h_)));(case aB=>exact (uB HB));(case aF=>exact (fun _ _=>trivial));(case aO=>exact (by (with_reducible repeat (first|apply Kd.S_alloc|apply Kd.S_drewN|apply Kd.S_drew));exact Kd.S_mono HO_5.out (fun k_ hk=>⟨trivial,fun e_=>hk.2 e_⟩)));(case aS=>exact (below_size (uB HB)));(case aL=>have:=LMc23.out;omega);intro v239 w26 ho hb hg hat;rw [←Ny238.out] at ho;replace BK219:=Aside0.mk (blk_grown (uK BK219) hg (Kd.S_ne HO_5.out BK219.out (by decide)));replace HB:=Aside0.mk (hb);have HO240:=Aside0.mk (ho);clear HO_5 HO237;clear ho hb hg hat));go_roundg k2
          case measure=>have:=HK1.out;have:=HK2.out;omega
          case rel=>exact ⟨(y238),(wrap64 (x7_2+1)),(by first|rfl|(simp;done)|(simp [*];done)),H',⟨by have:=HK1.out;have:=HK2.out;omega⟩,⟨uS HO240⟩,⟨uK BK219⟩,⟨uB HB⟩⟩
         ·
          rw [if_neg c23] at H;exact absurd H (by simp)
        ·
         rw [if_neg c22] at H;have c22b0:=decide_eq_false c22;clear c22;have H':=Aside0.mk H;clear H;go_wp2;go_roundg k2
         case measure=>have:=HK1.out;have:=HK2.out;omega
         case rel=>exact ⟨(x5_2),(wrap64 (x7_2+1)),(by first|rfl|(simp;done)|(simp [*];done)),H',⟨by have:=HK1.out;have:=HK2.out;omega⟩,⟨uS HO_5⟩,⟨uK BK219⟩,⟨uB HB⟩⟩
      ·
       rw [if_neg c5] at H;have c5b0:=decide_eq_false c5;clear c5;have H':=Aside0.mk H;clear H;go_wp2;go_roundg k2
       case measure=>have:=HK1.out;have:=HK2.out;omega
       case rel=>exact ⟨(x5_2),(wrap64 (x6_1+1)),(by first|rfl|(simp;done)|(simp [*];done)),H',⟨by have:=HK1.out;have:=HK2.out;omega⟩,⟨uS HO_5⟩,⟨uK BK219⟩,⟨uB HB⟩⟩
   ·
    rw [if_neg c4] at H;have c4b0:=decide_eq_false c4;clear c4;obtain ⟨t220,A28,H⟩:=bs H;(try dsimp only at H)
    obtain rfl:=Option.some.inj H;obtain ⟨Ao29,co29,eo29⟩:=Kd.S_slice HO_5.out;subst eo29;go_wp2_with (first|(refine gA (some 61) Try.func113 #[.int .i64 (wrap64 (a0*a1)), .slice Ao29 x5_1.length co29] ?_;(with_reducible refine (spec_poFrom.calls k1 (wrap64 (a0*a1)) _ _ x5_1 t220 _ ?side1 ?side2 A28.out).mono ?_);(case side1=>repeat (first|exact (Kd.S_reads' HO_5.out).2.2|(with_reducible refine Kd.C_alloc ?_ _)|(with_reducible refine Kd.C_drewN ?_ _)|(with_reducible refine Kd.C_drew ?_)));(case side2=>exact (Kd.S_reads' HO_5.out).2.1);rintro e w30 ⟨v221,rfl,ho0,hb⟩;refine ⟨_,rfl,?_⟩;replace HO_5:=Aside0.mk (Kd.S_elder' (uS HO_5) (Kd.R_base ho0) hb);have HO222:=Aside0.mk (Kd.R_lower ho0 (below_size (uB HB)));replace BK219:=Aside0.mk (blk_below (uK BK219) hb);replace HB:=Aside0.mk (below_step (uB HB) hb);(try clear hb ho0);obtain ⟨Ao31,co31,eo31⟩:=Kd.R_slice HO222.out;subst eo31;have hcz32_0:=bC BK219;have hfz32_0:=blk_frozen BK219.out 0));refine bodyPost_ret (results_cell_row rfl _ _ gb219 26 #[.slice Ao31 t220.length co31] (0,0) _ rfl (by (with_reducible repeat (first|refine blk_drewN ?_ _|refine blk_drew ?_|refine blk_alloc ?_ _));refine blk_put (cs:= #[.slice none 0 0]) ?_ 0 _ rfl;(with_reducible repeat (first|refine blk_drewN ?_ _|refine blk_drew ?_|refine blk_alloc ?_ _));exact BK219.out) Try.underlying26 rfl (by kernel_rfl)) rfl ?_;exact ⟨_,by first|rfl|(simp [errW_none,errW_some] <;>rfl)|(simp [*,errW_none,errW_some] <;>rfl),by (with_reducible repeat (first|apply Kd.R_alloc|apply Kd.R_drewN|apply Kd.R_drew));exact Kd.R_mono (Kd.R_far (p:=⟨gb219,0,none⟩) (Kd.R_types HO222.out BK219.out (by decide)) (fun _ hk=>hk.2) (.slice Ao31 t220.length co31)) (fun _ hk=>trivial),by repeat (first|(with_reducible first|exact HB.out|apply below_alloc|apply pw_below_drewN|apply below_drew1|refine below_set ?_ GE219.out)|exact HB.out)⟩
end Go.Proofs.Ytkgngggppcmpfaa.L
end
section
namespace Go.Proofs.Ytkgngggppcmpfaa.L
open Go.RowKit Go.Proofs.YtkgngggppcmpfaaW.PrintWords Go.Proofs.YtkgngggppcmpfaaW.PrintLast Go.Proofs.YtkgngggppcmpfaaW.PrintMore
attribute [local go_sem] max2_int min2_int max_two min_two max_three min_three max_four min_four
set_option linter.unusedVariables false
set_option linter.unusedSimpArgs false
def spec_l1In.f (a0 : Int) (a1 : Int) (a2 : Int) : Option (Bool) := if a0 ≥ a1 then (some (decide (a0 ≤ a2))) else (some false)
set_option maxHeartbeats 8000000 in
set_option maxRecDepth 100000 in
theorem spec_l1In.calls (a0 : Int) (a1 : Int) (a2 : Int) (r : Bool) (w : World) (h : spec_l1In.f a0 a1 a2 = some r) :
 Calls Try.prog 95 #[.int .i64 a0, .int .i64 a1, .int .i64 a2] w fun e w'=>e= .returned (.bool r)∧Drawn0 w w':=by
 have H:(if a0 ≥ a1 then (some (decide (a0≤a2))) else (some false))=some r:=h;clear h
 by_cases c4:a0 ≥ a1
 ·
  rw [if_pos c4] at H;have c4b0:=decide_eq_true c4;clear c4;obtain rfl:=Option.some.inj H;go_enter Try.func95,Try.ntmps95;go_wp2
  go_ret
  exact ⟨by first|rfl|(simp;done)|(simp [*];done),by repeat (first|exact Drawn0.refl _|apply Drawn0.step)⟩
 ·
  rw [if_neg c4] at H;have c4b0:=decide_eq_false c4;clear c4;obtain rfl:=Option.some.inj H;go_enter Try.func95,Try.ntmps95;go_wp2
  go_ret
  exact ⟨by first|rfl|(simp;done)|(simp [*];done),by repeat (first|exact Drawn0.refl _|apply Drawn0.step)⟩
end Go.Proofs.Ytkgngggppcmpfaa.L
end
section
namespace Go.Proofs.Ytkgngggppcmpfaa.L
open Go.RowKit Go.Proofs.YtkgngggppcmpfaaW.PrintWords Go.Proofs.YtkgngggppcmpfaaW.PrintLast Go.Proofs.YtkgngggppcmpfaaW.PrintMore Go.Proofs.Ytkgngggppcmpfaa.X
attribute [local go_sem] max2_int min2_int max_two min_two max_three min_three max_four min_four
set_option linter.unusedVariables false
set_option linter.unusedSimpArgs false
def spec_Staircase.m1 (xs : List (List Int)) (x : Nat) (s : List Int) : Nat → Int → List Int → Option (List Int)
 |0,y,F=>if y<(xs.length:Int) then none else some F
 |n+1,y,F=>if y<(xs.length:Int) then (if 0≤y∧1<s.length∧1<(xs.getD y.toNat []).length then spec_Staircase.m1 xs x s n (wrap64 (y+1)) (if (x:Int)≠y∧rd s 0≤rd (xs.getD y.toNat []) 0∧rd (xs.getD y.toNat []) 1≤rd s 1 then F.set x (Go.bits .or .i64 (rd F x) (shl .i64 1 y)) else F) else none) else some F
def spec_Staircase.m0 (xs : List (List Int)) : Nat → Int → List Int → Option (List Int)
 |0,x,F=>if x<(xs.length:Int) then none else some F
 |n+1,x,F=>if x<(xs.length:Int) then (if 0≤x then (spec_Staircase.m1 xs x.toNat (xs.getD x.toNat []) xs.length 0 F).bind fun F=>spec_Staircase.m0 xs n (wrap64 (x+1)) F else none) else some F
def spec_Staircase.p2 (xs : List (List Int)) : Option (List Int × Bool) := if xs.length ≤ 35184372088832 then (spec_Staircase.m0 xs xs.length 0 (List.replicate xs.length 0)).map (·, true) else none
mutual
def spec_Staircase.l0 : Nat → Int → Bool → List (List Int) → Int → Option (List Int × Bool)
 |0,_,_,_,_=>none
 |k+1,x0,x3,x4,x5=>if x5≤x0 then (spec_Staircase.l1 k x0 x3 x4 x5 0) else spec_Staircase.p2 x4
def spec_Staircase.l1 : Nat → Int → Bool → List (List Int) → Int → Int → Option (List Int × Bool)
 |0,_,_,_,_,_=>none
 |k+1,x0,x3,x4,x5,x6=>if (wrap64 (x6+x5))≤x0 then (if x4.length<5864062014805 then (spec_Staircase.l1 k x0 x3 (x4++ [(([x6,wrap64 (x6+x5)] :List Int))]) x5 (wrap64 (x6+1))) else (none)) else (spec_Staircase.l0 k x0 x3 x4 (wrap64 (x5+1)))
end
def spec_Staircase.f (k : Nat) (a0 : Int) : Option (List Int × Bool) := (spec_l1In.f a0 1 4).bind fun t156 => (if t156 = true then (spec_Staircase.l0 k a0 false ([] : List (List Int)) 1) else (some (([] : List Int), false)))
theorem spec_Staircase.mono_l : ∀ k, (∀ y0 y1 y2 y3, LeO (spec_Staircase.l0 k y0 y1 y2 y3) (spec_Staircase.l0 (k + 1) y0 y1 y2 y3)) ∧ (∀ y0 y1 y2 y3 y4, LeO (spec_Staircase.l1 k y0 y1 y2 y3 y4) (spec_Staircase.l1 (k + 1) y0 y1 y2 y3 y4))
 |0=>⟨fun _ _ _ _ r h=>by simp [spec_Staircase.l0] at h,fun _ _ _ _ _ r h=>by simp [spec_Staircase.l1] at h⟩
 |k+1=>by
  obtain ⟨ih0,ih1⟩:=spec_Staircase.mono_l k;refine ⟨?_,?_⟩
  ·
   intro y0 y1 y2 y3;unfold spec_Staircase.l0
   repeat' first
   |(with_reducible exact ih0 _ _ _ _)
   |(with_reducible exact ih1 _ _ _ _ _)
   |(with_reducible exact LeO.refl _)
   |exact ih0 _ _ _ _
   |exact ih1 _ _ _ _ _
   |exact LeO.none _
   |refine LeO.ite ?_ ?_
   |refine LeO.bind ?_ (fun _=> ?_)
  ·
   intro y0 y1 y2 y3 y4;unfold spec_Staircase.l1
   repeat' first
   |(with_reducible exact ih0 _ _ _ _)
   |(with_reducible exact ih1 _ _ _ _ _)
   |(with_reducible exact LeO.refl _)
   |exact ih0 _ _ _ _
   |exact ih1 _ _ _ _ _
   |exact LeO.none _
   |refine LeO.ite ?_ ?_
   |refine LeO.bind ?_ (fun _=> ?_)
theorem spec_Staircase.mono : ∀ a0 k, LeO (spec_Staircase.f k a0) (spec_Staircase.f (k + 1) a0) := by
 intro a0 k;obtain ⟨ih0,ih1⟩:=spec_Staircase.mono_l k;unfold spec_Staircase.f
 repeat' first
  |(with_reducible exact ih0 _ _ _ _)
  |(with_reducible exact ih1 _ _ _ _ _)
  |(with_reducible exact LeO.refl _)
  |exact ih0 _ _ _ _
  |exact ih1 _ _ _ _ _
  |exact LeO.none _
  |refine LeO.ite ?_ ?_
  |refine LeO.bind ?_ (fun _=> ?_)
theorem spec_Staircase.lit_R {α : Type} (d : Kd α) {W : World} (base e g : Nat) {xs : List α} {inner : List Value} {ok okp : Nat → Prop} (hrep : Reps (d.M W base okp) d.sz xs inner) (hok : ∀ k, okp k → ok k) (hg : g = W.heap.size) (hfresh : ok g) (hbase : base ≤ g) (hm : xs.length ≤ 9223372036854775807) :
 d.R e (W.alloc (.cells inner.toArray e)) base ok (.slice (some ⟨g,0,none⟩) xs.length xs.length) xs:=by
 subst hg;refine ⟨fun k hk=> ?_,inner,?_,?_⟩
 ·
  have:W.heap.size=k:=by simpa [Value.ownBlock] using hk
  subst this;exact hfresh
 ·
  have h2:=World.ownsRow_lit (base:=base) (e:=e) (size:=d.sz) W inner.toArray xs.length hbase (by simpa [maxLen] using hm) (by simpa using hrep.1)
  simpa using h2
 ·
  refine hrep.imp_ (fun p c hp=>d.M_mono (fun k hk=>⟨hok k hk.1,fun he=> ?_⟩) (Kd.M_below (d.M_bound hp) (below_alloc (Below.refl _ _) _)));have h3:k=W.heap.size:=by simpa [Value.ownBlock] using he
  have:=hk.2.2.1;omega
theorem spec_Staircase.made_R (W : World) (base g m : Nat) (hg : g = W.heap.size) (hbase : base ≤ g) (hm : m ≤ 35184372088832) :
 Kd.R (Kd.int .i64) 3 (W.alloc (.cells (madeCells #[.int .i64 0] m) 3)) base (fun _=>True) (.slice (some ⟨g,0,none⟩) m m) (List.replicate m 0):=by
 have hr:Reps ((Kd.int .i64).M W base (fun _=>True)) 1 (List.replicate m (0:Int)) (madeCells (Value.int .i64 0).cells (m*1)).toList:=Kd.reps_made (z:= .int .i64 0) rfl (by decide) (by constructor<;>first|rfl|trivial) m;have h:=spec_Staircase.lit_R (Kd.int .i64) base 3 g (ok:=fun _=>True) (okp:=fun _=>False) hr (fun _ h=>h.elim) hg trivial hbase (by rw [List.length_replicate];omega);rw [List.length_replicate,Nat.mul_one] at h;exact h
set_option maxHeartbeats 8000000 in
set_option maxRecDepth 100000 in
theorem spec_Staircase.calls (k : Nat) (a0 : Int) (r1 : List Int) (r2 : Bool) (w : World) (h : spec_Staircase.f k a0 = some (r1, r2)) :
 Calls Try.prog 136 #[.int .i64 a0] w fun e w'=> ∃ v0_:Value,e= .returned (.tuple #[.agg #[v0_], .bool r2])∧Kd.R (Kd.int .i64) 3 w' w.heap.size (fun _=>True) v0_ r1∧Below w.heap.size w w':=by
 have hu:=Try.underlying26;have HB:=Aside0.mk (Below.refl w.heap.size w);have H:((spec_l1In.f a0 1 4).bind fun t156=>(if t156=true then (spec_Staircase.l0 k a0 false ([] :List (List Int)) 1) else (some (([] :List Int),false))))=some (r1,r2):=h;clear h;obtain ⟨t156,A2,H⟩:=bs H;(try dsimp only at H)
 by_cases c3:t156=true
 ·
  subst c3;rw [if_pos rfl] at H;have H':=Aside0.mk H;clear H;go_enter Try.func136,Try.ntmps136;go_wp2_with (first|(refine bE (N:=2) (cs:= #[.slice none 0 0]) (t:=26) ?_;intro gb155 hg w4 hbox hb;have BK155:=Aside0.mk (hbox);have GW155:=Aside0.mk ((by rw [hg];exact (below_size (uB HB)):w.heap.size≤gb155));have GE155:=GW155;replace HB:=Aside0.mk (below_step (uB HB) hb);clear hb hbox hg)|(refine gA (some 13) Try.func95 #[.int .i64 a0, .int .i64 1, .int .i64 4] ?_;(with_reducible refine (spec_l1In.calls a0 1 4 true _ A2.out).mono ?_);rintro e w' ⟨rfl,⟨nd,rfl⟩⟩;refine ⟨_,rfl,?_⟩))
  go_loopg [4,5] k (fun kq v4 v5 w'=> ∃ (x4_1:List (List Int)) (x5_1:Int),v5= .int .i64 x5_1∧Aside0 (spec_Staircase.l0 kq a0 false x4_1 x5_1=some (r1,r2))∧Aside0 (kq≤k)∧Aside0 (Kd.S (Kd.slice 3 (Kd.int .i64)) 24 w' w.heap.size (fun _=>True) v4 x4_1)∧Aside0 (w'.heap[gb155]? =some (.cells #[(.slice none 0 0)] 26 (0,0)))∧Aside0 (Below w.heap.size w w'))
  case atStart=>exact ⟨(([] :List (List Int))),(1),(by first|rfl|(simp;done)|(simp [*];done)),H',⟨Nat.le_refl _⟩,⟨by first|exact Kd.S_nil _ _ _ _ _|exact Kd.N_nil _ _ _ _ _|exact Kd.V_nil _ _ _ _ _|exact Kd.Q_nil _ _ _ _ _|exact Kd.R_nil _ _ _ _ _⟩,⟨uK BK155⟩,⟨uB HB⟩⟩
  case round=>
   clear H'
   try clear c1
   try clear p2
   try clear c3
   obtain ⟨x4_1,x5_1,rfl,HA,HK1,HO_4,BK155,HB⟩:=hrel;cases gk with
   |zero=>exact absurd HA.out (by simp [spec_Staircase.l0])
   |succ k1=>
    have H:=HA.out;clear HA;simp only [spec_Staircase.l0] at H
    by_cases c5:x5_1≤a0
    ·
     rw [if_pos c5] at H;have c5b0:=decide_eq_true c5;clear c5;have H':=Aside0.mk H;clear H;go_wp2
     go_loopg [4,6] k1 (fun kq v4 v6 w'=> ∃ (x4_2:List (List Int)) (x6_2:Int),v6= .int .i64 x6_2∧Aside0 (spec_Staircase.l1 kq a0 false x4_2 x5_1 x6_2=some (r1,r2))∧Aside0 (kq≤k1)∧Aside0 (Kd.S (Kd.slice 3 (Kd.int .i64)) 24 w' w.heap.size (fun _=>True) v4 x4_2)∧Aside0 (w'.heap[gb155]? =some (.cells #[(.slice none 0 0)] 26 (0,0)))∧Aside0 (Below w.heap.size w w'))
     case atStart=>exact ⟨(x4_1),(0),(by first|rfl|(simp;done)|(simp [*];done)),H',⟨Nat.le_refl _⟩,⟨uS HO_4⟩,⟨uK BK155⟩,⟨uB HB⟩⟩
     case round=>
      clear H'
      try clear c1
      try clear p2
      try clear c3
      try clear c5
      try clear c5b0
      try clear p2
      obtain ⟨x4_2,x6_2,rfl,HA,HK2,HO_4,BK155,HB⟩:=hrel;cases gk with
      |zero=>exact absurd HA.out (by simp [spec_Staircase.l1])
      |succ k2=>
       have H:=HA.out;clear HA;simp only [spec_Staircase.l1] at H
       by_cases c6:(wrap64 (x6_2+x5_1))≤a0
       ·
        rw [if_pos c6] at H;have c6b0:=decide_eq_true c6;clear c6;obtain ⟨y157,hy157⟩: ∃ y_:List Int,y_=(([x6_2,wrap64 (x6_2+x5_1)] :List Int)):=⟨_,rfl⟩
        replace H:(if x4_2.length<5864062014805 then (spec_Staircase.l1 k2 a0 false (x4_2++ [y157]) x5_1 (wrap64 (x6_2+1))) else (none))=some (r1,r2):=by first|(rw [hy157];with_reducible exact H)|(have H2_:=(Option.bind_some _ _).symm.trans H;rw [hy157];with_reducible exact H2_)|(have H2_:=(Option.bind_some _ _).symm.trans H;with_reducible exact H2_)|with_reducible exact H|(rw [hy157];exact H)|exact H
        have Ny157:=Aside0.mk hy157;clear hy157
        by_cases c7:x4_2.length<5864062014805
        ·
         rw [if_pos c7] at H;have LMc7:=Aside0.mk c7;clear c7;obtain ⟨y160,hy160⟩: ∃ y_:List (List Int),y_=(x4_2++ [y157]):=⟨_,rfl⟩
         replace H:(spec_Staircase.l1 k2 a0 false y160 x5_1 (wrap64 (x6_2+1)))=some (r1,r2):=by first|(rw [hy160];with_reducible exact H)|(have H2_:=(Option.bind_some _ _).symm.trans H;rw [hy160];with_reducible exact H2_)|(have H2_:=(Option.bind_some _ _).symm.trans H;with_reducible exact H2_)|with_reducible exact H|(rw [hy160];exact H)|exact H
         have Ny160:=Aside0.mk hy160;clear hy160;have H':=Aside0.mk H;clear H;go_wp2_with (first|((with_reducible refine gate_dst (N:=33) rfl ?_);refine Kd.R_lit (Kd.int .i64) _ 3 ?hg (N:=33) ?hd (xs:=([x6_2,wrap64 (x6_2+x5_1)] :List Int)) (inner:= [.int .i64 x6_2, .int .i64 (wrap64 (x6_2+x5_1))]) (ok:=fun _=>True) (okp:=fun _=>True) ?hr ?hp (fun _ hk=>hk) trivial (Below.refl _ _) (Nat.le_refl _) (by simp) ?_;(case hd=>rfl);(case hg=>rfl);(case hr=>first|(go_simp;done)|(go_simp;rfl));(case hp=>exact (Reps.one (show Kd.M (Kd.int .i64) _ _ _ x6_2 [.int .i64 x6_2] from rfl) (Reps.one (show Kd.M (Kd.int .i64) _ _ _ (wrap64 (x6_2+x5_1)) [.int .i64 (wrap64 (x6_2+x5_1))] from rfl) (Reps.none _ _))));intro v158 w8 ho9 hb hg_ hnew_;clear hg_ hnew_;(first|rw [←Ny157.out] at ho9|(simp only [Int.reduceToNat] at ho9;rw [←Ny157.out] at ho9));replace HO_4:=Aside0.mk (Kd.S_elder' (uS HO_4) (Kd.R_base ho9) hb);have HO159:=Aside0.mk (Kd.R_lower ho9 (below_size (uB HB)));replace BK155:=Aside0.mk (blk_below (uK BK155) hb);replace HB:=Aside0.mk (below_step (uB HB) hb);clear hb ho9;obtain ⟨Ao11,co11,eo11⟩:=Kd.R_slice HO159.out;subst eo11)|((with_reducible refine gate_builtin (b:= .append) (xs:= #[.tmp 28, .tmp 34]) rfl ?_);at_builtin;refine Kd.S_append (Kd.slice 3 (Kd.int .i64)) (w0:=w) w.heap.size rfl (.tmp 28) (.tmp 34) 29 24 (.slice none 0 0) 24 rfl Try.underlying29 info24 rfl (by decide) (by omega) u4 x4_2 y157 [.slice Ao11 y157.length co11] (fun _=>True) (fun k_=>some k_=(.slice Ao11 y157.length co11:Value).ownBlock) rfl rfl ?aP (fun k_ hk_=>((Kd.R_mono (ok':=fun k_=>((fun _=>True)) k_∧some k_≠(u4:Value).ownBlock) (Kd.R_apart' (HO159.out) (Kd.S_typed HO_4.out) (by decide)) (fun k_ hk=>⟨trivial,hk.2⟩))).1 k_ hk_.symm) ?aF ?aO ?aB ?aS ?aL ?_;(case aP=>exact Kd.M_row (Kd.R_mono (Kd.R_tight rfl (Kd.R_mono (ok':=fun k_=>((fun _=>True)) k_∧some k_≠(u4:Value).ownBlock) (Kd.R_apart' (HO159.out) (Kd.S_typed HO_4.out) (by decide)) (fun k_ hk=>⟨trivial,hk.2⟩))) (fun _ h_=>h_)));(case aB=>exact (uB HB));(case aF=>exact (fun _ _=>trivial));(case aO=>exact (by (with_reducible repeat (first|apply Kd.S_alloc|apply Kd.S_drewN|apply Kd.S_drew));exact Kd.S_mono HO_4.out (fun k_ hk=>⟨trivial,fun e_=>hk.2 e_⟩)));(case aS=>exact (below_size (uB HB)));(case aL=>have:=LMc7.out;omega);intro v161 w10 ho hb hg hat;rw [←Ny160.out] at ho;replace BK155:=Aside0.mk (blk_grown (uK BK155) hg (Kd.S_ne HO_4.out BK155.out (by decide)));replace HB:=Aside0.mk (hb);have HO162:=Aside0.mk (ho);clear HO_4 HO159;clear ho hb hg hat));go_roundg k2
         case measure=>have:=HK1.out;have:=HK2.out;omega
         case rel=>exact ⟨(y160),(wrap64 (x6_2+1)),(by first|rfl|(simp;done)|(simp [*];done)),H',⟨by have:=HK1.out;have:=HK2.out;omega⟩,⟨uS HO162⟩,⟨uK BK155⟩,⟨uB HB⟩⟩
        ·
         rw [if_neg c7] at H;exact absurd H (by simp)
       ·
        rw [if_neg c6] at H;have c6b0:=decide_eq_false c6;clear c6;have H':=Aside0.mk H;clear H;go_wp2;go_roundg k2
        case measure=>have:=HK1.out;have:=HK2.out;omega
        case rel=>exact ⟨(x4_2),(wrap64 (x5_1+1)),(by first|rfl|(simp;done)|(simp [*];done)),H',⟨by have:=HK1.out;have:=HK2.out;omega⟩,⟨uS HO_4⟩,⟨uK BK155⟩,⟨uB HB⟩⟩
    ·
     rw [if_neg c5] at H;have c5b0:=decide_eq_false c5;clear c5;obtain ⟨A4,c4,e4⟩:=Kd.S_slice HO_4.out;subst e4;have RD:=Kd.R_reads' (Kd.S_R HO_4.out);have HC4:=Aside0.mk RD.2.2;have HL4:=Aside0.mk RD.2.1;have HBr:=Aside0.mk HB.out;clear RD HO_4 HK1;unfold spec_Staircase.p2 at H
     split at H
     ·
      rename_i hlen;obtain ⟨F',hF,hr⟩:=Option.map_eq_some_iff.mp H;injection hr with hr1 hr2
      subst hr1 hr2;have HF:=Aside0.mk hF;have HLn:=Aside0.mk hlen;clear H hF hlen;generalize x4_1=xs at*
      obtain ⟨w1,e1⟩: ∃ w1,w1=wr:=⟨_,rfl⟩
      subst e1;have hmk:=print_make (P:=Try.prog) 24 3 .i64 8 Try.underlying24 rfl (by decide) xs.length (by have:=HLn.out;omega);go_wp2_with fail;have R0:=Aside0.mk (show Kd.R (Kd.int .i64) 3 ((w1.alloc (.cells (madeCells #[.int .i64 0] xs.length) 3)).alloc (.cells #[.slice (some ⟨w1.heap.size,0,none⟩) xs.length xs.length] 26)) w1.heap.size (fun _=>True) (.slice (some ⟨w1.heap.size,0,none⟩) xs.length xs.length) (List.replicate xs.length 0) from Kd.R_alloc (spec_Staircase.made_R w1 w1.heap.size _ xs.length rfl (Nat.le_refl _) HLn.out) _);have K0:=Aside0.mk (show ((w1.alloc (.cells (madeCells #[.int .i64 0] xs.length) 3)).alloc (.cells #[.slice (some ⟨w1.heap.size,0,none⟩) xs.length xs.length] 26)).heap[w1.heap.size+1]? =some (.cells #[.slice (some ⟨w1.heap.size,0,none⟩) xs.length xs.length] 26 (0,0)) by rw [show w1.heap.size+1=(w1.alloc (.cells (madeCells #[.int .i64 0] xs.length) 3)).heap.size from (Array.size_push ..).symm];exact blk_new _ _);have B0:=Aside0.mk (below_alloc (below_alloc (Below.refl w1.heap.size w1) (.cells (madeCells #[.int .i64 0] xs.length) 3)) (.cells #[.slice (some ⟨w1.heap.size,0,none⟩) xs.length xs.length] 26));have HFU:=Aside0.mk (Nat.le_refl xs.length)
      go_loopg [42] xs.length (fun kq v42 wl=> ∃ (x:Int) (F:List Int),v42= .int .i64 x∧Aside0 (spec_Staircase.m0 xs kq x F=some F')∧Aside0 (kq≤xs.length)∧Aside0 (F.length=xs.length)∧Aside0 (Kd.R (Kd.int .i64) 3 wl w1.heap.size (fun _=>True) (.slice (some ⟨w1.heap.size,0,none⟩) xs.length xs.length) F)∧Aside0 (wl.heap[w1.heap.size+1]? =some (.cells #[.slice (some ⟨w1.heap.size,0,none⟩) xs.length xs.length] 26 (0,0)))∧Aside0 (Below w1.heap.size w1 wl))
      case atStart=>exact ⟨0,_,rfl,HF,HFU,⟨List.length_replicate⟩,R0,K0,B0⟩
      case round=>
       clear R0 K0 B0 HF;obtain ⟨x,F,rfl,HA,HK1,HN,HR,K,B⟩:=hrel
       by_cases hx:x<(xs.length:Int)
       ·
        cases gk with
        |zero=>
         have h:=HA.out;rw [spec_Staircase.m0,if_pos hx] at h;cases h
        |succ k1=>
         have h:=HA.out;rw [spec_Staircase.m0,if_pos hx] at h
         split at h
         ·
          rename_i hx0;obtain ⟨F1,hm,h⟩:=Option.bind_eq_some_iff.mp h;have HA2:=Aside0.mk h;clear h HA;obtain ⟨xn,rfl⟩:=Int.eq_ofNat_of_zero_le hx0;have hm':=hm;clear hm;obtain ⟨ad,As,cs,eA,hcs,hls,hCs⟩:=Go.Proofs.Ytkgngggppcmpfaa.X.row_at (Kd.C_below HC4.out (Below.refl _ _)) xn (by omega);cases eA;have hs:=(B.out.cell (World.block_lt_of_cell? w1 _ hcs)).trans hcs;have HCs:=Aside0.mk hCs;have HLs:=Aside0.mk hls;have hxb:(xn:Int)<(xs.length:Int):=hx;have HCA:=Aside0.mk hcs;clear hCs hls hcs;rw [Int.toNat_natCast] at hm';generalize xs.getD xn [] =s at hm' hs HCs HLs HCA;have HM:=Aside0.mk hm';clear hm';go_wp2_with fail
          go_loopg [49] xs.length (fun kq v49 wm=> ∃ (y:Int) (G:List Int),v49= .int .i64 y∧Aside0 (spec_Staircase.m1 xs xn s kq y G=some F1)∧Aside0 (kq≤xs.length)∧Aside0 (G.length=xs.length)∧Aside0 (Kd.R (Kd.int .i64) 3 wm w1.heap.size (fun _=>True) (.slice (some ⟨w1.heap.size,0,none⟩) xs.length xs.length) G)∧Aside0 (wm.heap[w1.heap.size+1]? =some (.cells #[.slice (some ⟨w1.heap.size,0,none⟩) xs.length xs.length] 26 (0,0)))∧Aside0 (Below w1.heap.size w1 wm))
          case atStart=>exact ⟨0,F,rfl,HM,HFU,HN,HR,K,B⟩
          case round=>
           clear HM HR K B hs HN;obtain ⟨y,G,rfl,HA3,HK2,HN,HR,K,B⟩:=hrel
           by_cases hy:y<(xs.length:Int)
           ·
            cases gk with
            |zero=>
             have h:=HA3.out;rw [spec_Staircase.m1,if_pos hy] at h;cases h
            |succ k2=>
             have h:=HA3.out;rw [spec_Staircase.m1,if_pos hy] at h
             split at h
             ·
              rename_i hc;have HA4':=h;clear h HA3;obtain ⟨yn,rfl⟩:=Int.eq_ofNat_of_zero_le hc.1;have hs1:=hc.2.1;have ht1:=hc.2.2;rw [Int.toNat_natCast] at ht1;clear hc;obtain ⟨ad2,At,ct,eA,hct,hlt,hCt⟩:=Go.Proofs.Ytkgngggppcmpfaa.X.row_at HC4.out yn (by omega);cases eA;have ht:=(B.out.cell (World.block_lt_of_cell? w1 _ hct)).trans hct;obtain ⟨ads,eA,s0⟩:=Kd.at_int (Kd.C_below HCs.out B.out) 0 (by omega) (by omega);cases eA;obtain ⟨ads2,eA,s1⟩:=Kd.at_int (Kd.C_below HCs.out B.out) 1 (by omega) (by omega);cases eA;obtain ⟨adt,eA,t0⟩:=Kd.at_int (Kd.C_below hCt B.out) 0 (by omega) (by omega);cases eA;obtain ⟨adt2,eA,t1⟩:=Kd.at_int (Kd.C_below hCt B.out) 1 (by omega) (by omega);cases eA;clear hCt hlt hct;have s0z:=s0;rw [Int.toNat_zero,Addr.add_zero'] at s0z;have s1z:=s1;rw [show ads.add (Int.toNat 1)= { block:=ads.block,off:=ads.off+1 } by simp [Addr.add]] at s1z;have t0z:=t0;rw [Int.toNat_zero,Addr.add_zero'] at t0z;have t1z:=t1;rw [show adt.add (Int.toNat 1)= { block:=adt.block,off:=adt.off+1 } by simp [Addr.add]] at t1z;rw [Int.toNat_natCast] at HA4';generalize xs.getD yn [] =t at*
              have q0:(0:Int)<(s.length:Int):=by omega
              have q1:(1:Int)<(s.length:Int):=by omega
              have r0:(0:Int)<(t.length:Int):=by omega
              have r1:(1:Int)<(t.length:Int):=by omega
              by_cases d1:(xn:Int)=(yn:Int)
              ·
               have HA5:=Aside0.mk (show spec_Staircase.m1 xs xn s k2 (wrap64 ((yn:Int)+1)) G=some F1 by rw [if_neg (fun c=>c.1 d1)] at HA4';exact HA4');have b1:((xn:Int) !=(yn:Int))=false:=bne_eq_false_iff_eq.mpr d1;have b2:((xn:Int)==(yn:Int))=true:=beq_iff_eq.mpr d1;clear d1 HA4';go_wp2_with fail
               repeat (go_quiet (fail);try go_wp2)
               go_roundg k2
               case measure=>have:=HK2.out;omega
               case rel=>exact ⟨wrap64 ((yn:Int)+1),G,rfl,HA5,⟨by have:=HK2.out;omega⟩,HN,⟨uR HR⟩,⟨uK K⟩,⟨by repeat (first|(with_reducible first|exact B.out|apply below_alloc|apply pw_below_drewN|apply below_drew1)|exact B.out)⟩⟩
              ·
               have b1:((xn:Int) !=(yn:Int))=true:=bne_iff_ne.mpr d1;have b2:((xn:Int)==(yn:Int))=false:=beq_eq_false_iff_ne.mpr d1
               by_cases d2:rd s 0≤rd t 0
               ·
                have b3:decide (rd s 0≤rd t 0)=true:=decide_eq_true d2
                by_cases d3:rd t 1≤rd s 1
                ·
                 have b4:decide (rd t 1≤rd s 1)=true:=decide_eq_true d3;have HA5':=(show spec_Staircase.m1 xs xn s k2 (wrap64 ((yn:Int)+1)) (G.set xn (Go.bits .or .i64 (rd G xn) (shl .i64 1 (yn:Int))))=some F1 by rw [if_pos ⟨d1,d2,d3⟩] at HA4';exact HA4')
                 clear d1 d2 d3 HA4';have hxG:(xn:Int)<(G.length:Int):=by have:=HN.out;omega
                 obtain ⟨gf,cf2,e5,hgb,hgl,cells,hg⟩:=Kd.R_form HR.out (by omega);injection e5 with e51 hle e53
                 cases e51;obtain ⟨ad3,e6,hgx⟩:=Kd.at_int (Kd.R_reads' HR.out).2.2 (xn:Int) (by omega) hxG;cases e6;have hfz:=blk_frozen hg xn;have zk:=blk_cell K.out 0;have hgz:wr.cell? ⟨w1.heap.size,xn,none⟩=some (.int .i64 (rd G xn)):=by
                  by_cases h0:xn=0
                  ·
                   subst h0;simpa [Addr.add] using hgx
                  ·
                   simpa [Addr.add,h0] using hgx
                 obtain ⟨ji,hji⟩: ∃ j_:Int,shl .i64 1 (yn:Int)=j_:=⟨_,rfl⟩
                 have hji_:(IntKind.i64.wrap (1*2 ^ min (yn:Int).toNat 64))=ji:=hji;have hjiu:(IntKind.i64.wrap (2 ^ min (yn:Int).toNat 64))=ji:=by have h_:=hji_;rw [Int.one_mul] at h_;exact h_
                 have hjin:(IntKind.i64.wrap (2 ^ min yn 64))=ji:=hjiu;rw [hji] at HA5';have HA5:=Aside0.mk HA5';clear HA5' hji hgx hgb hgl hle;go_wp2_with fail
                 go_region
                 all_goals
                  go_wp2_with fail
                  go_region
                  all_goals
                   go_wp2;go_roundg k2
                   case measure=>have:=HK2.out;omega
                   case rel=>exact ⟨wrap64 ((yn:Int)+1),G.set xn (Go.bits .or .i64 (rd G xn) ji),rfl,HA5,⟨by have:=HK2.out;omega⟩,⟨(List.length_set ..).trans HN.out⟩,⟨by (with_reducible repeat (first|apply Kd.R_alloc|apply Kd.R_drewN|apply Kd.R_drew));have h_:=(Kd.R_putg HR.out (xn:Int) (Go.bits .or .i64 (rd G xn) ji)).1;rwa [Int.toNat_natCast] at h_⟩,⟨by (with_reducible repeat (first|refine blk_drewN ?_ _|refine blk_drew ?_|refine blk_alloc ?_ _));exact blk_far K.out (Nat.succ_ne_self _) _⟩,⟨by repeat (first|(with_reducible first|exact B.out|apply below_alloc|apply pw_below_drewN|apply below_drew1)|exact below_set B.out (Nat.le_refl _)|exact B.out)⟩⟩
                ·
                 have b4:decide (rd t 1≤rd s 1)=false:=decide_eq_false d3;have HA5:=Aside0.mk (show spec_Staircase.m1 xs xn s k2 (wrap64 ((yn:Int)+1)) G=some F1 by rw [if_neg (fun c=>d3 c.2.2)] at HA4';exact HA4');clear d1 d2 d3 HA4';go_wp2_with fail
                 go_region
                 all_goals
                  go_wp2;go_roundg k2
                  case measure=>have:=HK2.out;omega
                  case rel=>exact ⟨wrap64 ((yn:Int)+1),G,rfl,HA5,⟨by have:=HK2.out;omega⟩,HN,⟨uR HR⟩,⟨uK K⟩,⟨by repeat (first|(with_reducible first|exact B.out|apply below_alloc|apply pw_below_drewN|apply below_drew1)|exact B.out)⟩⟩
               ·
                have b3:decide (rd s 0≤rd t 0)=false:=decide_eq_false d2;have HA5:=Aside0.mk (show spec_Staircase.m1 xs xn s k2 (wrap64 ((yn:Int)+1)) G=some F1 by rw [if_neg (fun c=>d2 c.2.1)] at HA4';exact HA4');clear d1 d2 HA4';go_wp2_with fail
                go_region
                all_goals
                 go_wp2;go_roundg k2
                 case measure=>have:=HK2.out;omega
                 case rel=>exact ⟨wrap64 ((yn:Int)+1),G,rfl,HA5,⟨by have:=HK2.out;omega⟩,HN,⟨uR HR⟩,⟨uK K⟩,⟨by repeat (first|(with_reducible first|exact B.out|apply below_alloc|apply pw_below_drewN|apply below_drew1)|exact B.out)⟩⟩
             ·
              cases h
           ·
            have h:=HA3.out;have e:G=F1:=by
             cases gk with
             |zero=>rw [spec_Staircase.m1,if_neg hy] at h;exact Option.some.inj h
             |succ k2=>rw [spec_Staircase.m1,if_neg hy] at h;exact Option.some.inj h
            subst e;clear h HA3;go_wp2;go_roundg k1
            case measure=>have:=HK1.out;omega
            case rel=>exact ⟨wrap64 ((xn:Int)+1),G,rfl,HA2,⟨by have:=HK1.out;omega⟩,HN,HR,K,B⟩
         ·
          cases h
       ·
        have h:=HA.out;have e:F=F':=by
         cases gk with
         |zero=>rw [spec_Staircase.m0,if_neg hx] at h;exact Option.some.inj h
         |succ k1=>rw [spec_Staircase.m0,if_neg hx] at h;exact Option.some.inj h
        subst e;clear h HA HFU;have BKe:=Aside0.mk (show wr.heap[gb155]? =some (.cells #[.slice none 0 0] 26 (0,0)) from blk_below BK155.out B.out);have hcz:wr.cell? ⟨gb155,0,none⟩=some (.slice none 0 0):=(blk_cell BKe.out 0).trans rfl;have hfz:=blk_frozen BKe.out 0;have zk:=(blk_cell K.out 0).trans rfl;go_wp2;refine bodyPost_ret (results_ct rfl _ _ gb155 26 #[.slice (some ⟨w1.heap.size,0,none⟩) xs.length xs.length] (0,0) _ rfl (by (with_reducible repeat (first|refine blk_drewN ?_ _|refine blk_drew ?_|refine blk_alloc ?_ _));refine blk_put (cs:= #[.slice none 0 0]) ?_ 0 _ rfl;(with_reducible repeat (first|refine blk_drewN ?_ _|refine blk_drew ?_|refine blk_alloc ?_ _));exact BKe.out) Try.underlying26 rfl (by kernel_rfl)) rfl ?_;exact ⟨_,by first|rfl|(simp;done),by (with_reducible repeat (first|apply Kd.R_alloc|apply Kd.R_drewN|apply Kd.R_drew));exact Kd.R_mono (Kd.R_far (p:=⟨gb155,0,none⟩) (Kd.R_types (Kd.R_lower HR.out HBr.out.size) BKe.out (by decide)) (fun _ hk=>hk.2) _) (fun _ hk=>trivial),by (repeat (first|(with_reducible apply below_alloc)|(with_reducible apply pw_below_drewN)|(with_reducible apply below_drew1)));exact below_set (HBr.out.trans (B.out.mono HBr.out.size)) GE155.out⟩
     ·
      cases H
 ·
  replace c3:=Bool.eq_false_iff.mpr c3;subst c3;rw [if_neg (show ¬ (false=true) by decide)] at H;simp only [Option.some.injEq,Prod.mk.injEq] at H;obtain ⟨rfl,rfl⟩:=H;go_enter Try.func136,Try.ntmps136;go_wp2_with (first|(refine bE (N:=2) (cs:= #[.slice none 0 0]) (t:=26) ?_;intro gb155 hg w12 hbox hb;have BK155:=Aside0.mk (hbox);have GW155:=Aside0.mk ((by rw [hg];exact (below_size (uB HB)):w.heap.size≤gb155));have GE155:=GW155;replace HB:=Aside0.mk (below_step (uB HB) hb);clear hb hbox hg)|(refine gA (some 13) Try.func95 #[.int .i64 a0, .int .i64 1, .int .i64 4] ?_;(with_reducible refine (spec_l1In.calls a0 1 4 false _ A2.out).mono ?_);rintro e w' ⟨rfl,⟨nd,rfl⟩⟩;refine ⟨_,rfl,?_⟩;(try (rw [drewN_self w12];generalize hq_:World.drewN w12 _=w12;have n0_:Aside0 (w12.heap[gb155]? =some (.cells #[.slice none 0 0] 26 (0,0))):=⟨by rw [←hq_];exact (uK BK155)⟩;have n1_:Aside0 (Below w.heap.size w w12):=⟨by rw [←hq_];exact (uB HB)⟩;clear BK155 HB hq_;have BK155:=n0_;have HB:=n1_;clear n0_ n1_));have hcz13_0:=bC BK155;have hfz13_0:=blk_frozen BK155.out 0));refine bodyPost_ret (results_ct rfl _ _ gb155 26 #[.slice none 0 0] (0,0) _ rfl (by (with_reducible repeat (first|refine blk_drewN ?_ _|refine blk_drew ?_|refine blk_alloc ?_ _));refine blk_put (cs:= #[.slice none 0 0]) ?_ 0 _ rfl;(with_reducible repeat (first|refine blk_drewN ?_ _|refine blk_drew ?_|refine blk_alloc ?_ _));exact BK155.out) Try.underlying26 rfl (by kernel_rfl)) rfl ?_;exact ⟨_,by first|rfl|(simp [errW_none,errW_some] <;>rfl)|(simp [*,errW_none,errW_some] <;>rfl),by first|exact Kd.R_nil _ _ _ _ _|exact Kd.N_nil _ _ _ _ _|exact Kd.V_nil _ _ _ _ _|exact Kd.Q_nil _ _ _ _ _|exact Kd.S_nil _ _ _ _ _,by repeat (first|(with_reducible first|exact HB.out|apply below_alloc|apply pw_below_drewN|apply below_drew1|refine below_set ?_ GE155.out)|exact HB.out)⟩
def spec_Fence.l0 : Nat → Int → Int → List (List Int) → Int → Option (List Int × Bool)
 |0,_,_,_,_=>none
 |k+1,x0,x4,x5,x6=>if (wrap64 (x4+x6))<x0 then (if x5.length<5864062014805 then ((some (x5++ [(([x6,wrap64 (x4+x6)] :List Int))] :List (List Int))).bind fun y246=>(if (wrap64 (x6+1))<x4 then (if y246.length<5864062014805 then (spec_Fence.l0 k x0 x4 (y246++ [(([wrap64 (x6+1),wrap64 (x4+x6)] :List Int))]) (wrap64 (x6+1))) else (none)) else (spec_Fence.l0 k x0 x4 y246 (wrap64 (x6+1))))) else (none)) else ((spec_poFrom.f k x0 x5).bind fun t255=>(some (t255,true)))
def spec_Fence.f (k : Nat) (a0 : Int) : Option (List Int × Bool) := (spec_l1In.f a0 1 10).bind fun t242 => (if t242 = true then (spec_Fence.l0 k a0 (wrap64 (Int.tdiv (wrap64 (a0 + 1)) 2)) ([] : List (List Int)) 0) else (some (([] : List Int), false)))
theorem spec_Fence.mono_l : ∀ k, (∀ y0 y1 y2 y3, LeO (spec_Fence.l0 k y0 y1 y2 y3) (spec_Fence.l0 (k + 1) y0 y1 y2 y3))
 |0=>fun _ _ _ _ r h=>by simp [spec_Fence.l0] at h
 |k+1=>by
  have ih0:=spec_Fence.mono_l k
  ·
   intro y0 y1 y2 y3;unfold spec_Fence.l0
   repeat' first
   |(with_reducible exact ih0 _ _ _ _)
   |(with_reducible exact spec_poFrom.mono _ _ _)
   |(with_reducible exact LeO.refl _)
   |(with_reducible exact LeO.none _)
   |(with_reducible refine LeO.ite ?_ ?_)
   |(with_reducible refine LeO.bind ?_ (fun _=> ?_))
   |exact ih0 _ _ _ _
   |exact spec_poFrom.mono _ _ _
   |exact LeO.none _
   |refine LeO.ite ?_ ?_
   |refine LeO.bind ?_ (fun _=> ?_)
theorem spec_Fence.mono : ∀ a0 k, LeO (spec_Fence.f k a0) (spec_Fence.f (k + 1) a0) := by
 intro a0 k;have ih0:=spec_Fence.mono_l k;unfold spec_Fence.f
 repeat' first
  |(with_reducible exact ih0 _ _ _ _)
  |(with_reducible exact spec_poFrom.mono _ _ _)
  |(with_reducible exact LeO.refl _)
  |(with_reducible exact LeO.none _)
  |(with_reducible refine LeO.ite ?_ ?_)
  |(with_reducible refine LeO.bind ?_ (fun _=> ?_))
  |exact ih0 _ _ _ _
  |exact spec_poFrom.mono _ _ _
  |exact LeO.none _
  |refine LeO.ite ?_ ?_
  |refine LeO.bind ?_ (fun _=> ?_)
set_option maxHeartbeats 8000000 in
set_option maxRecDepth 100000 in
theorem spec_Fence.calls (k : Nat) (a0 : Int) (r1 : List Int) (r2 : Bool) (w : World) (h : spec_Fence.f k a0 = some (r1, r2)) :
 Calls Try.prog 137 #[.int .i64 a0] w fun e w'=> ∃ v0_:Value,e= .returned (.tuple #[.agg #[v0_], .bool r2])∧Kd.R (Kd.int .i64) 3 w' w.heap.size (fun _=>True) v0_ r1∧Below w.heap.size w w':=by
 have hu26:=Try.underlying26;have HB:=Aside0.mk (Below.refl w.heap.size w);have H:((spec_l1In.f a0 1 10).bind fun t242=>(if t242=true then (spec_Fence.l0 k a0 (wrap64 (Int.tdiv (wrap64 (a0+1)) 2)) ([] :List (List Int)) 0) else (some (([] :List Int),false))))=some (r1,r2):=h;clear h;obtain ⟨t242,A2,H⟩:=bs H;(try dsimp only at H)
 by_cases c3:t242=true
 ·
  subst c3;rw [if_pos rfl] at H;have H':=Aside0.mk H;clear H;go_enter Try.func137,Try.ntmps137;go_wp2_with (first|(refine bE (N:=2) (cs:= #[.slice none 0 0]) (t:=26) ?_;intro gb241 hg w4 hbox hb;have BK241:=Aside0.mk (hbox);have GW241:=Aside0.mk ((by rw [hg];exact (below_size (uB HB)):w.heap.size≤gb241));have GE241:=GW241;replace HB:=Aside0.mk (below_step (uB HB) hb);clear hb hbox hg)|(refine gA (some 8) Try.func95 #[.int .i64 a0, .int .i64 1, .int .i64 10] ?_;(with_reducible refine (spec_l1In.calls a0 1 10 true _ A2.out).mono ?_);rintro e w' ⟨rfl,⟨nd,rfl⟩⟩;refine ⟨_,rfl,?_⟩))
  go_loopg [5,6] k (fun kq v5 v6 w'=> ∃ (x5_1:List (List Int)) (x6_1:Int),v6= .int .i64 x6_1∧Aside0 (spec_Fence.l0 kq a0 (wrap64 (Int.tdiv (wrap64 (a0+1)) 2)) x5_1 x6_1=some (r1,r2))∧Aside0 (kq≤k)∧Aside0 (Kd.S (Kd.slice 3 (Kd.int .i64)) 24 w' w.heap.size (fun _=>True) v5 x5_1)∧Aside0 (w'.heap[gb241]? =some (.cells #[(.slice none 0 0)] 26 (0,0)))∧Aside0 (Below w.heap.size w w'))
  case atStart=>exact ⟨(([] :List (List Int))),(0),(by first|rfl|(simp;done)|(simp [*];done)),H',⟨Nat.le_refl _⟩,⟨by first|exact Kd.S_nil _ _ _ _ _|exact Kd.N_nil _ _ _ _ _|exact Kd.V_nil _ _ _ _ _|exact Kd.Q_nil _ _ _ _ _|exact Kd.R_nil _ _ _ _ _⟩,⟨uK BK241⟩,⟨uB HB⟩⟩
  case round=>
   clear H'
   try clear c1
   try clear p2
   try clear c3
   obtain ⟨x5_1,x6_1,rfl,HA,HK1,HO_5,BK241,HB⟩:=hrel;cases gk with
   |zero=>exact absurd HA.out (by simp [spec_Fence.l0])
   |succ k1=>
    have H:=HA.out;clear HA;simp only [spec_Fence.l0] at H
    by_cases c5:(wrap64 ((wrap64 (Int.tdiv (wrap64 (a0+1)) 2))+x6_1))<a0
    ·
     rw [if_pos c5] at H;have c5b0:=decide_eq_true c5;clear c5;obtain ⟨y243,hy243⟩: ∃ y_:List Int,y_=(([x6_1,wrap64 ((wrap64 (Int.tdiv (wrap64 (a0+1)) 2))+x6_1)] :List Int)):=⟨_,rfl⟩
     replace H:(if x5_1.length<5864062014805 then ((some (x5_1++ [y243] :List (List Int))).bind fun y246=>(if (wrap64 (x6_1+1))<(wrap64 (Int.tdiv (wrap64 (a0+1)) 2)) then (if y246.length<5864062014805 then (spec_Fence.l0 k1 a0 (wrap64 (Int.tdiv (wrap64 (a0+1)) 2)) (y246++ [(([wrap64 (x6_1+1),wrap64 ((wrap64 (Int.tdiv (wrap64 (a0+1)) 2))+x6_1)] :List Int))]) (wrap64 (x6_1+1))) else (none)) else (spec_Fence.l0 k1 a0 (wrap64 (Int.tdiv (wrap64 (a0+1)) 2)) y246 (wrap64 (x6_1+1))))) else (none))=some (r1,r2):=by first|(rw [hy243];with_reducible exact H)|(have H2_:=(Option.bind_some _ _).symm.trans H;rw [hy243];with_reducible exact H2_)|(have H2_:=(Option.bind_some _ _).symm.trans H;with_reducible exact H2_)|with_reducible exact H|(rw [hy243];exact H)|exact H
     have Ny243:=Aside0.mk hy243;clear hy243
     by_cases c6:x5_1.length<5864062014805
     ·
      rw [if_pos c6] at H;have LMc6:=Aside0.mk c6;clear c6;obtain ⟨y246,hy246⟩: ∃ y_:List (List Int),y_=(x5_1++ [y243]):=⟨_,rfl⟩
      replace H:(if (wrap64 (x6_1+1))<(wrap64 (Int.tdiv (wrap64 (a0+1)) 2)) then (if y246.length<5864062014805 then (spec_Fence.l0 k1 a0 (wrap64 (Int.tdiv (wrap64 (a0+1)) 2)) (y246++ [(([wrap64 (x6_1+1),wrap64 ((wrap64 (Int.tdiv (wrap64 (a0+1)) 2))+x6_1)] :List Int))]) (wrap64 (x6_1+1))) else (none)) else (spec_Fence.l0 k1 a0 (wrap64 (Int.tdiv (wrap64 (a0+1)) 2)) y246 (wrap64 (x6_1+1))))=some (r1,r2):=by first|(rw [hy246];with_reducible exact H)|(have H2_:=(Option.bind_some _ _).symm.trans H;rw [hy246];with_reducible exact H2_)|(have H2_:=(Option.bind_some _ _).symm.trans H;with_reducible exact H2_)|with_reducible exact H|(rw [hy246];exact H)|exact H
      have Ny246:=Aside0.mk hy246;clear hy246
      by_cases c7:(wrap64 (x6_1+1))<(wrap64 (Int.tdiv (wrap64 (a0+1)) 2))
      ·
       rw [if_pos c7] at H;have c7b0:=decide_eq_true c7;clear c7;obtain ⟨y249,hy249⟩: ∃ y_:List Int,y_=(([wrap64 (x6_1+1),wrap64 ((wrap64 (Int.tdiv (wrap64 (a0+1)) 2))+x6_1)] :List Int)):=⟨_,rfl⟩
       replace H:(if y246.length<5864062014805 then (spec_Fence.l0 k1 a0 (wrap64 (Int.tdiv (wrap64 (a0+1)) 2)) (y246++ [y249]) (wrap64 (x6_1+1))) else (none))=some (r1,r2):=by first|(rw [hy249];with_reducible exact H)|(have H2_:=(Option.bind_some _ _).symm.trans H;rw [hy249];with_reducible exact H2_)|(have H2_:=(Option.bind_some _ _).symm.trans H;with_reducible exact H2_)|with_reducible exact H|(rw [hy249];exact H)|exact H
       have Ny249:=Aside0.mk hy249;clear hy249
       by_cases c8:y246.length<5864062014805
       ·
        rw [if_pos c8] at H;have LMc8:=Aside0.mk c8;clear c8;obtain ⟨y252,hy252⟩: ∃ y_:List (List Int),y_=(y246++ [y249]):=⟨_,rfl⟩
        replace H:(spec_Fence.l0 k1 a0 (wrap64 (Int.tdiv (wrap64 (a0+1)) 2)) y252 (wrap64 (x6_1+1)))=some (r1,r2):=by first|(rw [hy252];with_reducible exact H)|(have H2_:=(Option.bind_some _ _).symm.trans H;rw [hy252];with_reducible exact H2_)|(have H2_:=(Option.bind_some _ _).symm.trans H;with_reducible exact H2_)|with_reducible exact H|(rw [hy252];exact H)|exact H
        have Ny252:=Aside0.mk hy252;clear hy252;have H':=Aside0.mk H;clear H;go_wp2_with (first|((with_reducible refine gate_dst (N:=26) rfl ?_);refine Kd.R_lit (Kd.int .i64) _ 3 ?hg (N:=26) ?hd (xs:=([x6_1,wrap64 ((wrap64 (Int.tdiv (wrap64 (a0+1)) 2))+x6_1)] :List Int)) (inner:= [.int .i64 x6_1, .int .i64 (wrap64 ((wrap64 (Int.tdiv (wrap64 (a0+1)) 2))+x6_1))]) (ok:=fun _=>True) (okp:=fun _=>True) ?hr ?hp (fun _ hk=>hk) trivial (Below.refl _ _) (Nat.le_refl _) (by simp) ?_;(case hd=>rfl);(case hg=>rfl);(case hr=>first|(go_simp;done)|(go_simp;rfl));(case hp=>exact (Reps.one (show Kd.M (Kd.int .i64) _ _ _ x6_1 [.int .i64 x6_1] from rfl) (Reps.one (show Kd.M (Kd.int .i64) _ _ _ (wrap64 ((wrap64 (Int.tdiv (wrap64 (a0+1)) 2))+x6_1)) [.int .i64 (wrap64 ((wrap64 (Int.tdiv (wrap64 (a0+1)) 2))+x6_1))] from rfl) (Reps.none _ _))));intro v244 w9 ho10 hb hg_ hnew_;clear hg_ hnew_;(first|rw [←Ny243.out] at ho10|(simp only [Int.reduceToNat] at ho10;rw [←Ny243.out] at ho10));replace HO_5:=Aside0.mk (Kd.S_elder' (uS HO_5) (Kd.R_base ho10) hb);have HO245:=Aside0.mk (Kd.R_lower ho10 (below_size (uB HB)));replace BK241:=Aside0.mk (blk_below (uK BK241) hb);replace HB:=Aside0.mk (below_step (uB HB) hb);clear hb ho10;obtain ⟨Ao12,co12,eo12⟩:=Kd.R_slice HO245.out;subst eo12)|((with_reducible refine gate_builtin (b:= .append) (xs:= #[.tmp 21, .tmp 27]) rfl ?_);at_builtin;refine Kd.S_append (Kd.slice 3 (Kd.int .i64)) (w0:=w) w.heap.size rfl (.tmp 21) (.tmp 27) 29 24 (.slice none 0 0) 24 rfl Try.underlying29 info24 rfl (by decide) (by omega) u5 x5_1 y243 [.slice Ao12 y243.length co12] (fun _=>True) (fun k_=>some k_=(.slice Ao12 y243.length co12:Value).ownBlock) rfl rfl ?aP (fun k_ hk_=>((Kd.R_mono (ok':=fun k_=>((fun _=>True)) k_∧some k_≠(u5:Value).ownBlock) (Kd.R_apart' (HO245.out) (Kd.S_typed HO_5.out) (by decide)) (fun k_ hk=>⟨trivial,hk.2⟩))).1 k_ hk_.symm) ?aF ?aO ?aB ?aS ?aL ?_;(case aP=>exact Kd.M_row (Kd.R_mono (Kd.R_tight rfl (Kd.R_mono (ok':=fun k_=>((fun _=>True)) k_∧some k_≠(u5:Value).ownBlock) (Kd.R_apart' (HO245.out) (Kd.S_typed HO_5.out) (by decide)) (fun k_ hk=>⟨trivial,hk.2⟩))) (fun _ h_=>h_)));(case aB=>exact (uB HB));(case aF=>exact (fun _ _=>trivial));(case aO=>exact (by (with_reducible repeat (first|apply Kd.S_alloc|apply Kd.S_drewN|apply Kd.S_drew));exact Kd.S_mono HO_5.out (fun k_ hk=>⟨trivial,fun e_=>hk.2 e_⟩)));(case aS=>exact (below_size (uB HB)));(case aL=>have:=LMc6.out;omega);intro v247 w11 ho hb hg hat;rw [←Ny246.out] at ho;replace BK241:=Aside0.mk (blk_grown (uK BK241) hg (Kd.S_ne HO_5.out BK241.out (by decide)));replace HB:=Aside0.mk (hb);have HO248:=Aside0.mk (ho);clear HO_5 HO245;clear ho hb hg hat)|((with_reducible refine gate_dst (N:=39) rfl ?_);refine Kd.R_lit (Kd.int .i64) _ 3 ?hg (N:=39) ?hd (xs:=([wrap64 (x6_1+1),wrap64 ((wrap64 (Int.tdiv (wrap64 (a0+1)) 2))+x6_1)] :List Int)) (inner:= [.int .i64 (wrap64 (x6_1+1)), .int .i64 (wrap64 ((wrap64 (Int.tdiv (wrap64 (a0+1)) 2))+x6_1))]) (ok:=fun _=>True) (okp:=fun _=>True) ?hr ?hp (fun _ hk=>hk) trivial (Below.refl _ _) (Nat.le_refl _) (by simp) ?_;(case hd=>rfl);(case hg=>rfl);(case hr=>first|(go_simp;done)|(go_simp;rfl));(case hp=>exact (Reps.one (show Kd.M (Kd.int .i64) _ _ _ (wrap64 (x6_1+1)) [.int .i64 (wrap64 (x6_1+1))] from rfl) (Reps.one (show Kd.M (Kd.int .i64) _ _ _ (wrap64 ((wrap64 (Int.tdiv (wrap64 (a0+1)) 2))+x6_1)) [.int .i64 (wrap64 ((wrap64 (Int.tdiv (wrap64 (a0+1)) 2))+x6_1))] from rfl) (Reps.none _ _))));intro v250 w13 ho14 hb hg_ hnew_;clear hg_ hnew_;(first|rw [←Ny249.out] at ho14|(simp only [Int.reduceToNat] at ho14;rw [←Ny249.out] at ho14));replace HO248:=Aside0.mk (Kd.S_elder' (uS HO248) (Kd.R_base ho14) hb);have HO251:=Aside0.mk (Kd.R_lower ho14 (below_size (uB HB)));replace BK241:=Aside0.mk (blk_below (uK BK241) hb);replace HB:=Aside0.mk (below_step (uB HB) hb);clear hb ho14;obtain ⟨Ao16,co16,eo16⟩:=Kd.R_slice HO251.out;subst eo16)|((with_reducible refine gate_builtin (b:= .append) (xs:= #[.tmp 33, .tmp 40]) rfl ?_);at_builtin;refine Kd.S_append (Kd.slice 3 (Kd.int .i64)) (w0:=w) w.heap.size rfl (.tmp 33) (.tmp 40) 29 24 (.slice none 0 0) 24 rfl Try.underlying29 info24 rfl (by decide) (by omega) v247 y246 y249 [.slice Ao16 y249.length co16] (fun _=>True) (fun k_=>some k_=(.slice Ao16 y249.length co16:Value).ownBlock) rfl rfl ?aP (fun k_ hk_=>((Kd.R_mono (ok':=fun k_=>((fun _=>True)) k_∧some k_≠(v247:Value).ownBlock) (Kd.R_apart' (HO251.out) (Kd.S_typed HO248.out) (by decide)) (fun k_ hk=>⟨trivial,hk.2⟩))).1 k_ hk_.symm) ?aF ?aO ?aB ?aS ?aL ?_;(case aP=>exact Kd.M_row (Kd.R_mono (Kd.R_tight rfl (Kd.R_mono (ok':=fun k_=>((fun _=>True)) k_∧some k_≠(v247:Value).ownBlock) (Kd.R_apart' (HO251.out) (Kd.S_typed HO248.out) (by decide)) (fun k_ hk=>⟨trivial,hk.2⟩))) (fun _ h_=>h_)));(case aB=>exact (uB HB));(case aF=>exact (fun _ _=>trivial));(case aO=>exact (by (with_reducible repeat (first|apply Kd.S_alloc|apply Kd.S_drewN|apply Kd.S_drew));exact Kd.S_mono HO248.out (fun k_ hk=>⟨trivial,fun e_=>hk.2 e_⟩)));(case aS=>exact (below_size (uB HB)));(case aL=>have:=LMc8.out;omega);intro v253 w15 ho hb hg hat;rw [←Ny252.out] at ho;replace BK241:=Aside0.mk (blk_grown (uK BK241) hg (Kd.S_ne HO248.out BK241.out (by decide)));replace HB:=Aside0.mk (hb);have HO254:=Aside0.mk (ho);clear HO248 HO251;clear ho hb hg hat))
        go_roundg k1
        case measure=>have:=HK1.out;omega
        case rel=>exact ⟨(y252),(wrap64 (x6_1+1)),(by first|rfl|(simp;done)|(simp [*];done)),H',⟨by have:=HK1.out;omega⟩,⟨uS HO254⟩,⟨uK BK241⟩,⟨uB HB⟩⟩
       ·
        rw [if_neg c8] at H;exact absurd H (by simp)
      ·
       rw [if_neg c7] at H;have c7b0:=decide_eq_false c7;clear c7;have H':=Aside0.mk H;clear H;go_wp2_with (first|((with_reducible refine gate_dst (N:=26) rfl ?_);refine Kd.R_lit (Kd.int .i64) _ 3 ?hg (N:=26) ?hd (xs:=([x6_1,wrap64 ((wrap64 (Int.tdiv (wrap64 (a0+1)) 2))+x6_1)] :List Int)) (inner:= [.int .i64 x6_1, .int .i64 (wrap64 ((wrap64 (Int.tdiv (wrap64 (a0+1)) 2))+x6_1))]) (ok:=fun _=>True) (okp:=fun _=>True) ?hr ?hp (fun _ hk=>hk) trivial (Below.refl _ _) (Nat.le_refl _) (by simp) ?_;(case hd=>rfl);(case hg=>rfl);(case hr=>first|(go_simp;done)|(go_simp;rfl));(case hp=>exact (Reps.one (show Kd.M (Kd.int .i64) _ _ _ x6_1 [.int .i64 x6_1] from rfl) (Reps.one (show Kd.M (Kd.int .i64) _ _ _ (wrap64 ((wrap64 (Int.tdiv (wrap64 (a0+1)) 2))+x6_1)) [.int .i64 (wrap64 ((wrap64 (Int.tdiv (wrap64 (a0+1)) 2))+x6_1))] from rfl) (Reps.none _ _))));intro v244 w17 ho18 hb hg_ hnew_;clear hg_ hnew_;(first|rw [←Ny243.out] at ho18|(simp only [Int.reduceToNat] at ho18;rw [←Ny243.out] at ho18));replace HO_5:=Aside0.mk (Kd.S_elder' (uS HO_5) (Kd.R_base ho18) hb);have HO245:=Aside0.mk (Kd.R_lower ho18 (below_size (uB HB)));replace BK241:=Aside0.mk (blk_below (uK BK241) hb);replace HB:=Aside0.mk (below_step (uB HB) hb);clear hb ho18;obtain ⟨Ao20,co20,eo20⟩:=Kd.R_slice HO245.out;subst eo20)|((with_reducible refine gate_builtin (b:= .append) (xs:= #[.tmp 21, .tmp 27]) rfl ?_);at_builtin;refine Kd.S_append (Kd.slice 3 (Kd.int .i64)) (w0:=w) w.heap.size rfl (.tmp 21) (.tmp 27) 29 24 (.slice none 0 0) 24 rfl Try.underlying29 info24 rfl (by decide) (by omega) u5 x5_1 y243 [.slice Ao20 y243.length co20] (fun _=>True) (fun k_=>some k_=(.slice Ao20 y243.length co20:Value).ownBlock) rfl rfl ?aP (fun k_ hk_=>((Kd.R_mono (ok':=fun k_=>((fun _=>True)) k_∧some k_≠(u5:Value).ownBlock) (Kd.R_apart' (HO245.out) (Kd.S_typed HO_5.out) (by decide)) (fun k_ hk=>⟨trivial,hk.2⟩))).1 k_ hk_.symm) ?aF ?aO ?aB ?aS ?aL ?_;(case aP=>exact Kd.M_row (Kd.R_mono (Kd.R_tight rfl (Kd.R_mono (ok':=fun k_=>((fun _=>True)) k_∧some k_≠(u5:Value).ownBlock) (Kd.R_apart' (HO245.out) (Kd.S_typed HO_5.out) (by decide)) (fun k_ hk=>⟨trivial,hk.2⟩))) (fun _ h_=>h_)));(case aB=>exact (uB HB));(case aF=>exact (fun _ _=>trivial));(case aO=>exact (by (with_reducible repeat (first|apply Kd.S_alloc|apply Kd.S_drewN|apply Kd.S_drew));exact Kd.S_mono HO_5.out (fun k_ hk=>⟨trivial,fun e_=>hk.2 e_⟩)));(case aS=>exact (below_size (uB HB)));(case aL=>have:=LMc6.out;omega);intro v247 w19 ho hb hg hat;rw [←Ny246.out] at ho;replace BK241:=Aside0.mk (blk_grown (uK BK241) hg (Kd.S_ne HO_5.out BK241.out (by decide)));replace HB:=Aside0.mk (hb);have HO248:=Aside0.mk (ho);clear HO_5 HO245;clear ho hb hg hat));go_roundg k1
       case measure=>have:=HK1.out;omega
       case rel=>exact ⟨(y246),(wrap64 (x6_1+1)),(by first|rfl|(simp;done)|(simp [*];done)),H',⟨by have:=HK1.out;omega⟩,⟨uS HO248⟩,⟨uK BK241⟩,⟨uB HB⟩⟩
     ·
      rw [if_neg c6] at H;exact absurd H (by simp)
    ·
     rw [if_neg c5] at H;have c5b0:=decide_eq_false c5;clear c5;obtain ⟨t255,A21,H⟩:=bs H;(try dsimp only at H)
     simp only [Option.some.injEq,Prod.mk.injEq] at H;obtain ⟨rfl,rfl⟩:=H;obtain ⟨Ao22,co22,eo22⟩:=Kd.S_slice HO_5.out;subst eo22;go_wp2_with (first|(refine gA (some 44) Try.func113 #[.int .i64 a0, .slice Ao22 x5_1.length co22] ?_;(with_reducible refine (spec_poFrom.calls k1 a0 _ _ x5_1 t255 _ ?side1 ?side2 A21.out).mono ?_);(case side1=>repeat (first|exact (Kd.S_reads' HO_5.out).2.2|(with_reducible refine Kd.C_alloc ?_ _)|(with_reducible refine Kd.C_drewN ?_ _)|(with_reducible refine Kd.C_drew ?_)));(case side2=>exact (Kd.S_reads' HO_5.out).2.1);rintro e w23 ⟨v256,rfl,ho0,hb⟩;refine ⟨_,rfl,?_⟩;replace HO_5:=Aside0.mk (Kd.S_elder' (uS HO_5) (Kd.R_base ho0) hb);have HO257:=Aside0.mk (Kd.R_lower ho0 (below_size (uB HB)));replace BK241:=Aside0.mk (blk_below (uK BK241) hb);replace HB:=Aside0.mk (below_step (uB HB) hb);(try clear hb ho0);obtain ⟨Ao24,co24,eo24⟩:=Kd.R_slice HO257.out;subst eo24;have hcz25_0:=bC BK241;have hfz25_0:=blk_frozen BK241.out 0));refine bodyPost_ret (results_ct rfl _ _ gb241 26 #[.slice Ao24 t255.length co24] (0,0) _ rfl (by (with_reducible repeat (first|refine blk_drewN ?_ _|refine blk_drew ?_|refine blk_alloc ?_ _));refine blk_put (cs:= #[.slice none 0 0]) ?_ 0 _ rfl;(with_reducible repeat (first|refine blk_drewN ?_ _|refine blk_drew ?_|refine blk_alloc ?_ _));exact BK241.out) Try.underlying26 rfl (by kernel_rfl)) rfl ?_;exact ⟨_,by first|rfl|(simp [errW_none,errW_some] <;>rfl)|(simp [*,errW_none,errW_some] <;>rfl),by (with_reducible repeat (first|apply Kd.R_alloc|apply Kd.R_drewN|apply Kd.R_drew));exact Kd.R_mono (Kd.R_far (p:=⟨gb241,0,none⟩) (Kd.R_types HO257.out BK241.out (by decide)) (fun _ hk=>hk.2) (.slice Ao24 t255.length co24)) (fun _ hk=>trivial),by repeat (first|(with_reducible first|exact HB.out|apply below_alloc|apply pw_below_drewN|apply below_drew1|refine below_set ?_ GE241.out)|exact HB.out)⟩
 ·
  replace c3:=Bool.eq_false_iff.mpr c3;subst c3;rw [if_neg (show ¬ (false=true) by decide)] at H;simp only [Option.some.injEq,Prod.mk.injEq] at H;obtain ⟨rfl,rfl⟩:=H;go_enter Try.func137,Try.ntmps137;go_wp2_with (first|(refine bE (N:=2) (cs:= #[.slice none 0 0]) (t:=26) ?_;intro gb241 hg w26 hbox hb;have BK241:=Aside0.mk (hbox);have GW241:=Aside0.mk ((by rw [hg];exact (below_size (uB HB)):w.heap.size≤gb241));have GE241:=GW241;replace HB:=Aside0.mk (below_step (uB HB) hb);clear hb hbox hg)|(refine gA (some 8) Try.func95 #[.int .i64 a0, .int .i64 1, .int .i64 10] ?_;(with_reducible refine (spec_l1In.calls a0 1 10 false _ A2.out).mono ?_);rintro e w' ⟨rfl,⟨nd,rfl⟩⟩;refine ⟨_,rfl,?_⟩;(try (rw [drewN_self w26];generalize hq_:World.drewN w26 _=w26;have n0_:Aside0 (w26.heap[gb241]? =some (.cells #[.slice none 0 0] 26 (0,0))):=⟨by rw [←hq_];exact (uK BK241)⟩;have n1_:Aside0 (Below w.heap.size w w26):=⟨by rw [←hq_];exact (uB HB)⟩;clear BK241 HB hq_;have BK241:=n0_;have HB:=n1_;clear n0_ n1_));have hcz27_0:=bC BK241;have hfz27_0:=blk_frozen BK241.out 0));refine bodyPost_ret (results_ct rfl _ _ gb241 26 #[.slice none 0 0] (0,0) _ rfl (by (with_reducible repeat (first|refine blk_drewN ?_ _|refine blk_drew ?_|refine blk_alloc ?_ _));refine blk_put (cs:= #[.slice none 0 0]) ?_ 0 _ rfl;(with_reducible repeat (first|refine blk_drewN ?_ _|refine blk_drew ?_|refine blk_alloc ?_ _));exact BK241.out) Try.underlying26 rfl (by kernel_rfl)) rfl ?_;exact ⟨_,by first|rfl|(simp [errW_none,errW_some] <;>rfl)|(simp [*,errW_none,errW_some] <;>rfl),by first|exact Kd.R_nil _ _ _ _ _|exact Kd.N_nil _ _ _ _ _|exact Kd.V_nil _ _ _ _ _|exact Kd.Q_nil _ _ _ _ _|exact Kd.S_nil _ _ _ _ _,by repeat (first|(with_reducible first|exact HB.out|apply below_alloc|apply pw_below_drewN|apply below_drew1|refine below_set ?_ GE241.out)|exact HB.out)⟩
mutual
def spec_l1Cur_surePoset.l0 : Nat → Int → List (List Int) → Int → List Int → Int → Int → Option (List Int × Int × Int)
 |0,_,_,_,_,_,_=>none
 |k+1,x9,x10,x11,x1000,x1001,x1002=>if x11>0 then (spec_l1Cur_surePoset.j1 k x9 x10 x11 (decide (x9>1)) x1000 x1001 x1002) else (spec_l1Cur_surePoset.j1 k x9 x10 x11 false x1000 x1001 x1002)
def spec_l1Cur_surePoset.j1 : Nat → Int → List (List Int) → Int → Bool → List Int → Int → Int → Option (List Int × Int × Int)
 |0,_,_,_,_,_,_,_=>none
 |k+1,x9,x10,x11,x61,x1000,x1001,x1002=>if x61=true then ((spec_l1Cur_pick.f x1000 x1001 x1002 (wrap64 (x9 - 1))).bind fun bt294=>((spec_l1Cur_pick.f x1000 bt294.2.1 bt294.2.2 (wrap64 ((wrap64 (x9 - 1)) - bt294.1))).bind fun bt297=>(if x10.length<5864062014805 then (spec_l1Cur_surePoset.l0 k x9 (x10++ [(([bt294.1,wrap64 ((wrap64 (bt294.1+1))+bt297.1)] :List Int))]) (wrap64 (x11 - 1)) x1000 bt297.2.1 bt297.2.2) else (none)))) else ((spec_poFrom.f k x9 x10).bind fun t306=>(some (t306,x1001,x1002)))
end
def spec_l1Cur_surePoset.f (k : Nat) (s0_0 : List Int) (s0_1 : Int) (s0_2 : Int) (a1 : Int) : Option (List Int × Int × Int) := (spec_l1Cur_pick.f s0_0 s0_1 s0_2 5).bind fun bt259 => (if bt259.1 = 0 then ((spec_l1Cur_pick.f s0_0 bt259.2.1 bt259.2.2 2).bind fun bt262 => ((spec_l1Most.f 1 (wrap64 (Int.tdiv a1 2))).bind fun t265 => ((spec_l1Cur_pick.f s0_0 bt262.2.1 bt262.2.2 t265).bind fun bt266 => ((spec_poRectangle.f k (wrap64 (1 + bt262.1)) (wrap64 (1 + bt266.1))).bind fun t269 => (some (t269, bt266.2.1, bt266.2.2)))))) else (if bt259.1 = 1 then ((spec_l1Cur_pick.f s0_0 bt259.2.1 bt259.2.2 2).bind fun bt272 => ((spec_Staircase.f k (wrap64 (1 + bt272.1))).bind fun bt275 => (some (bt275.1, bt272.2.1, bt272.2.2)))) else (if bt259.1 = 2 then ((spec_l1Cur_pick.f s0_0 bt259.2.1 bt259.2.2 a1).bind fun bt280 => ((spec_Fence.f k (wrap64 (1 + bt280.1))).bind fun bt283 => (some (bt283.1, bt280.2.1, bt280.2.2)))) else ((spec_l1Cur_pick.f s0_0 bt259.2.1 bt259.2.2 a1).bind fun bt288 => ((spec_l1Cur_pick.f s0_0 bt288.2.1 bt288.2.2 (wrap64 (2 * (wrap64 (1 + bt288.1))))).bind fun bt291 => (spec_l1Cur_surePoset.l0 k (wrap64 (1 + bt288.1)) ([] : List (List Int)) bt291.1 s0_0 bt291.2.1 bt291.2.2))))))
theorem spec_l1Cur_surePoset.mono_l : ∀ k, (∀ y0 y1 y2 y3 y4 y5, LeO (spec_l1Cur_surePoset.l0 k y0 y1 y2 y3 y4 y5) (spec_l1Cur_surePoset.l0 (k + 1) y0 y1 y2 y3 y4 y5)) ∧ (∀ y0 y1 y2 y3 y4 y5 y6, LeO (spec_l1Cur_surePoset.j1 k y0 y1 y2 y3 y4 y5 y6) (spec_l1Cur_surePoset.j1 (k + 1) y0 y1 y2 y3 y4 y5 y6))
 |0=>⟨fun _ _ _ _ _ _ r h=>by simp [spec_l1Cur_surePoset.l0] at h,fun _ _ _ _ _ _ _ r h=>by simp [spec_l1Cur_surePoset.j1] at h⟩
 |k+1=>by
  obtain ⟨ih0,ih1⟩:=spec_l1Cur_surePoset.mono_l k;refine ⟨?_,?_⟩
  ·
   intro y0 y1 y2 y3 y4 y5;unfold spec_l1Cur_surePoset.l0
   repeat' first
   |(with_reducible exact ih0 _ _ _ _ _ _)
   |(with_reducible exact ih1 _ _ _ _ _ _ _)
   |(with_reducible exact spec_Fence.mono _ _)
   |(with_reducible exact spec_Staircase.mono _ _)
   |(with_reducible exact spec_poFrom.mono _ _ _)
   |(with_reducible exact spec_poRectangle.mono _ _ _)
   |(with_reducible exact LeO.refl _)
   |(with_reducible exact LeO.none _)
   |(with_reducible refine LeO.ite ?_ ?_)
   |(with_reducible refine LeO.bind ?_ (fun _=> ?_))
   |exact ih0 _ _ _ _ _ _
   |exact ih1 _ _ _ _ _ _ _
   |exact spec_Fence.mono _ _
   |exact spec_Staircase.mono _ _
   |exact spec_poFrom.mono _ _ _
   |exact spec_poRectangle.mono _ _ _
   |exact LeO.none _
   |refine LeO.ite ?_ ?_
   |refine LeO.bind ?_ (fun _=> ?_)
  ·
   intro y0 y1 y2 y3 y4 y5 y6;unfold spec_l1Cur_surePoset.j1
   repeat' first
   |(with_reducible exact ih0 _ _ _ _ _ _)
   |(with_reducible exact ih1 _ _ _ _ _ _ _)
   |(with_reducible exact spec_Fence.mono _ _)
   |(with_reducible exact spec_Staircase.mono _ _)
   |(with_reducible exact spec_poFrom.mono _ _ _)
   |(with_reducible exact spec_poRectangle.mono _ _ _)
   |(with_reducible exact LeO.refl _)
   |(with_reducible exact LeO.none _)
   |(with_reducible refine LeO.ite ?_ ?_)
   |(with_reducible refine LeO.bind ?_ (fun _=> ?_))
   |exact ih0 _ _ _ _ _ _
   |exact ih1 _ _ _ _ _ _ _
   |exact spec_Fence.mono _ _
   |exact spec_Staircase.mono _ _
   |exact spec_poFrom.mono _ _ _
   |exact spec_poRectangle.mono _ _ _
   |exact LeO.none _
   |refine LeO.ite ?_ ?_
   |refine LeO.bind ?_ (fun _=> ?_)
theorem spec_l1Cur_surePoset.mono : ∀ a0 a1 a2 a3 k, LeO (spec_l1Cur_surePoset.f k a0 a1 a2 a3) (spec_l1Cur_surePoset.f (k + 1) a0 a1 a2 a3) := by
 intro a0 a1 a2 a3 k;obtain ⟨ih0,ih1⟩:=spec_l1Cur_surePoset.mono_l k;unfold spec_l1Cur_surePoset.f
 repeat' first
  |(with_reducible exact ih0 _ _ _ _ _ _)
  |(with_reducible exact ih1 _ _ _ _ _ _ _)
  |(with_reducible exact spec_Fence.mono _ _)
  |(with_reducible exact spec_Staircase.mono _ _)
  |(with_reducible exact spec_poFrom.mono _ _ _)
  |(with_reducible exact spec_poRectangle.mono _ _ _)
  |(with_reducible exact LeO.refl _)
  |(with_reducible exact LeO.none _)
  |(with_reducible refine LeO.ite ?_ ?_)
  |(with_reducible refine LeO.bind ?_ (fun _=> ?_))
  |exact ih0 _ _ _ _ _ _
  |exact ih1 _ _ _ _ _ _ _
  |exact spec_Fence.mono _ _
  |exact spec_Staircase.mono _ _
  |exact spec_poFrom.mono _ _ _
  |exact spec_poRectangle.mono _ _ _
  |exact LeO.none _
  |refine LeO.ite ?_ ?_
  |refine LeO.bind ?_ (fun _=> ?_)
set_option maxHeartbeats 8000000 in
set_option maxRecDepth 100000 in
theorem spec_l1Cur_surePoset.calls (k : Nat) (g : Nat) (s0_0 : List Int) (s0_1 : Int) (s0_2 : Int) (a1 : Int) (r1 : List Int) (r2 : Int) (r3 : Int) (w0 w : World) (hI : IsS67 w0 w g s0_0 s0_1 s0_2) (hB : Below w0.heap.size w0 w) (h : spec_l1Cur_surePoset.f k s0_0 s0_1 s0_2 a1 = some (r1, r2, r3)) :
 Calls Try.prog 130 #[.pointer (some ⟨g,0,none⟩), .int .i64 a1] w fun e w'=> ∃ v0_:Value,e= .returned (.agg #[v0_])∧Kd.R (Kd.int .i64) 3 w' w.heap.size (fun _=>True) v0_ r1∧IsS67 w0 w' g s0_0 r2 r3∧Below w0.heap.size w0 w'∧KeepBut w w' g none:=by
 have hu26:=Try.underlying26;have HI0:=Aside0.mk hI;have HK:=Aside0.mk (KeepBut.refl w g none);have HL:=Aside0.mk hB.size;clear hI;have HW0:=Aside0.mk hB.size;have HB:=Aside0.mk hB;clear hB;have H:((spec_l1Cur_pick.f s0_0 s0_1 s0_2 5).bind fun bt259=>(if bt259.1=0 then ((spec_l1Cur_pick.f s0_0 bt259.2.1 bt259.2.2 2).bind fun bt262=>((spec_l1Most.f 1 (wrap64 (Int.tdiv a1 2))).bind fun t265=>((spec_l1Cur_pick.f s0_0 bt262.2.1 bt262.2.2 t265).bind fun bt266=>((spec_poRectangle.f k (wrap64 (1+bt262.1)) (wrap64 (1+bt266.1))).bind fun t269=>(some (t269,bt266.2.1,bt266.2.2)))))) else (if bt259.1=1 then ((spec_l1Cur_pick.f s0_0 bt259.2.1 bt259.2.2 2).bind fun bt272=>((spec_Staircase.f k (wrap64 (1+bt272.1))).bind fun bt275=>(some (bt275.1,bt272.2.1,bt272.2.2)))) else (if bt259.1=2 then ((spec_l1Cur_pick.f s0_0 bt259.2.1 bt259.2.2 a1).bind fun bt280=>((spec_Fence.f k (wrap64 (1+bt280.1))).bind fun bt283=>(some (bt283.1,bt280.2.1,bt280.2.2)))) else ((spec_l1Cur_pick.f s0_0 bt259.2.1 bt259.2.2 a1).bind fun bt288=>((spec_l1Cur_pick.f s0_0 bt288.2.1 bt288.2.2 (wrap64 (2*(wrap64 (1+bt288.1))))).bind fun bt291=>(spec_l1Cur_surePoset.l0 k (wrap64 (1+bt288.1)) ([] :List (List Int)) bt291.1 s0_0 bt291.2.1 bt291.2.2)))))))=some (r1,r2,r3):=h;clear h;obtain ⟨⟨t259,t260,t261⟩,A3,H⟩:=bs H;(try dsimp only at H)
 by_cases c4:t259=0
 ·
  rw [if_pos c4] at H;have c4b0:(t259==0)=true:=beq_iff_eq.mpr c4;have c4b1:(t259 !=0)=false:=bne_eq_false_iff_eq.mpr c4;clear c4;obtain ⟨⟨t262,t263,t264⟩,A5,H⟩:=bs H;(try dsimp only at H)
  obtain ⟨t265,A6,H⟩:=bs H;(try dsimp only at H)
  obtain ⟨⟨t266,t267,t268⟩,A7,H⟩:=bs H;(try dsimp only at H)
  obtain ⟨t269,A8,H⟩:=bs H;(try dsimp only at H)
  simp only [Option.some.injEq,Prod.mk.injEq] at H;obtain ⟨rfl,rfl,rfl⟩:=H;go_enter Try.func130,Try.ntmps130;go_wp2_with (first|(refine bE (N:=4) (cs:= #[.slice none 0 0]) (t:=26) ?_;intro gb258 hg w9 hbox hb;replace HB:=Aside0.mk (below_step (uB HB) hb);have BK258:=Aside0.mk (hbox);have GW258:=Aside0.mk ((by rw [hg];exact (keep_size (w:=w) (g:=g) (row:=none) (uP HK)):w.heap.size≤gb258));have GE258:=Aside0.mk ((Nat.le_trans HW0.out (by rw [hg];exact (keep_size (w:=w) (g:=g) (row:=none) (uP HK)):w.heap.size≤gb258):w0.heap.size≤gb258));replace HK:=Aside0.mk (KeepBut.trans (uP HK) (KeepBut.of_below hb g none) (.inl rfl));have NB0_258:=Aside0.mk ((by rw [hg];exact Nat.ne_of_lt (IsS67.lt (show IsS67 w0 _ g s0_0 s0_1 s0_2 from IsS67.u HI0)):g≠gb258));have NB258_0:=Aside0.mk ((by rw [hg];exact Nat.ne_of_gt (IsS67.lt (show IsS67 w0 _ g s0_0 s0_1 s0_2 from IsS67.u HI0)):gb258≠g));replace HI0:=Aside0.mk (IsS67.below (IsS67.u HI0) hb);clear hb hbox hg)|(refine gA (some 14) Try.func58 #[.pointer (some ⟨g,0,none⟩), .int .i64 5] ?_;(with_reducible refine (spec_l1Cur_pick.calls g s0_0 s0_1 s0_2 5 t259 t260 t261 w0 _ (IsS67.u HI0) (uB HB) A3.out).mono ?_);rintro e w10 ⟨rfl,hi,hb,hk⟩;refine ⟨_,rfl,?_⟩;replace BK258:=Aside0.mk (KeepBut.blk hk (g':=gb258) (o:= .cells #[.slice none 0 0] 26 (0,0)) (uK BK258) NB258_0.out (by simp));replace HK:=Aside0.mk (KeepBut.trans (uP HK) hk (.inl rfl));replace HB:=Aside0.mk (hb);replace HI0:=Aside0.mk (hi);(try clear hb hk hi))|(refine gA (some 18) Try.func58 #[.pointer (some ⟨g,0,none⟩), .int .i64 2] ?_;(with_reducible refine (spec_l1Cur_pick.calls g s0_0 t260 t261 2 t262 t263 t264 w0 _ (IsS67.u HI0) (uB HB) A5.out).mono ?_);rintro e w11 ⟨rfl,hi,hb,hk⟩;refine ⟨_,rfl,?_⟩;replace BK258:=Aside0.mk (KeepBut.blk hk (g':=gb258) (o:= .cells #[.slice none 0 0] 26 (0,0)) (uK BK258) NB258_0.out (by simp));replace HK:=Aside0.mk (KeepBut.trans (uP HK) hk (.inl rfl));replace HB:=Aside0.mk (hb);replace HI0:=Aside0.mk (hi);(try clear hb hk hi))|(refine gA (some 23) Try.func60 #[.int .i64 1, .int .i64 (wrap64 (Int.tdiv a1 2))] ?_;(with_reducible refine (spec_l1Most.calls 1 (wrap64 (Int.tdiv a1 2)) t265 _ A6.out).mono ?_);rintro e w' ⟨rfl,⟨nd,rfl⟩⟩;refine ⟨_,rfl,?_⟩;(try (rw [drewN_self w11];generalize hq_:World.drewN w11 _=w11;have n0_:Aside0 (w11.heap[gb258]? =some (.cells #[.slice none 0 0] 26 (0,0))):=⟨by rw [←hq_];exact (uK BK258)⟩;have n1_:Aside0 (IsS67 w0 w11 g s0_0 t263 t264):=⟨by rw [←hq_];exact (IsS67.u HI0)⟩;have n2_:Aside0 (KeepBut w w11 g none):=⟨by rw [←hq_];exact (uP HK)⟩;have n3_:Aside0 (Below w0.heap.size w0 w11):=⟨by rw [←hq_];exact (uB HB)⟩;clear BK258 HI0 HK HB hq_;have BK258:=n0_;have HI0:=n1_;have HK:=n2_;have HB:=n3_;clear n0_ n1_ n2_ n3_)))|(refine gA (some 24) Try.func58 #[.pointer (some ⟨g,0,none⟩), .int .i64 t265] ?_;(with_reducible refine (spec_l1Cur_pick.calls g s0_0 t263 t264 t265 t266 t267 t268 w0 _ (IsS67.u HI0) (uB HB) A7.out).mono ?_);rintro e w12 ⟨rfl,hi,hb,hk⟩;refine ⟨_,rfl,?_⟩;replace BK258:=Aside0.mk (KeepBut.blk hk (g':=gb258) (o:= .cells #[.slice none 0 0] 26 (0,0)) (uK BK258) NB258_0.out (by simp));replace HK:=Aside0.mk (KeepBut.trans (uP HK) hk (.inl rfl));replace HB:=Aside0.mk (hb);replace HI0:=Aside0.mk (hi);(try clear hb hk hi))|(refine gA (some 26) Try.func57 #[.int .i64 (wrap64 (1+t262)), .int .i64 (wrap64 (1+t266))] ?_;(with_reducible refine (spec_poRectangle.calls k (wrap64 (1+t262)) (wrap64 (1+t266)) t269 _ A8.out).mono ?_);rintro e w13 ⟨v270,rfl,ho0,hb⟩;refine ⟨_,rfl,?_⟩;have HO271:=Aside0.mk (Kd.R_lower ho0 (keep_size (w:=w) (g:=g) (row:=none) (uP HK)));replace HI0:=Aside0.mk (IsS67.below (IsS67.u HI0) hb);replace BK258:=Aside0.mk (blk_below (uK BK258) hb);replace HK:=Aside0.mk (KeepBut.trans (uP HK) (KeepBut.of_below hb g none) (.inl rfl));replace HB:=Aside0.mk (below_step (uB HB) hb);(try clear hb ho0);obtain ⟨Ao14,co14,eo14⟩:=Kd.R_slice HO271.out;subst eo14;have hnb15:=NB258_0.out;have hnc15:=NB0_258.out;have hcz16_0:=bC BK258;have hfz16_0:=blk_frozen BK258.out 0));refine bodyPost_ret (results_cell_row rfl _ _ gb258 26 #[.slice Ao14 t269.length co14] (0,0) _ rfl (by (with_reducible repeat (first|refine blk_drewN ?_ _|refine blk_drew ?_|refine blk_alloc ?_ _));refine blk_put (cs:= #[.slice none 0 0]) ?_ 0 _ rfl;(with_reducible repeat (first|refine blk_drewN ?_ _|refine blk_drew ?_|refine blk_alloc ?_ _));exact BK258.out) Try.underlying26 rfl (by kernel_rfl)) rfl ?_;exact ⟨_,by first|rfl|(simp [errW_none,errW_some] <;>rfl)|(simp [*,errW_none,errW_some] <;>rfl),by (with_reducible repeat (first|apply Kd.R_alloc|apply Kd.R_drewN|apply Kd.R_drew));exact Kd.R_mono (Kd.R_far (p:=⟨gb258,0,none⟩) (Kd.R_types HO271.out BK258.out (by decide)) (fun _ hk=>hk.2) (.slice Ao14 t269.length co14)) (fun _ hk=>trivial),by repeat (first|(with_reducible first|exact HI0.out|apply IsS67.alloc|apply IsS67.drewN|apply IsS67.drew|apply IsS67.set_1|apply IsS67.set_2|refine IsS67.far ?_ NB0_258.out _)|exact HI0.out),by repeat (first|(with_reducible first|exact HB.out|apply below_alloc|apply pw_below_drewN|apply below_drew1|refine below_set ?_ (IsS67.ge HI0.out)|refine below_set ?_ GE258.out)|exact HB.out),by repeat (first|(with_reducible first|exact HK.out|apply KeepBut.set_|apply keep_drewN|apply keep_drew|apply keep_alloc|refine keep_far ?_ GW258.out _)|exact HK.out)⟩
 ·
  rw [if_neg c4] at H;have c4b0:(t259==0)=false:=beq_eq_false_iff_ne.mpr c4;have c4b1:(t259 !=0)=true:=bne_iff_ne.mpr c4
  by_cases c17:t259=1
  ·
   rw [if_pos c17] at H;have c17b0:(t259==1)=true:=beq_iff_eq.mpr c17;have c17b1:(t259 !=1)=false:=bne_eq_false_iff_eq.mpr c17;clear c17;obtain ⟨⟨t272,t273,t274⟩,A18,H⟩:=bs H;(try dsimp only at H)
   obtain ⟨⟨t275,t278⟩,A19,H⟩:=bs H;(try dsimp only at H)
   simp only [Option.some.injEq,Prod.mk.injEq] at H;obtain ⟨rfl,rfl,rfl⟩:=H;go_enter Try.func130,Try.ntmps130;go_wp2_with (first|(refine bE (N:=4) (cs:= #[.slice none 0 0]) (t:=26) ?_;intro gb258 hg w20 hbox hb;replace HB:=Aside0.mk (below_step (uB HB) hb);have BK258:=Aside0.mk (hbox);have GW258:=Aside0.mk ((by rw [hg];exact (keep_size (w:=w) (g:=g) (row:=none) (uP HK)):w.heap.size≤gb258));have GE258:=Aside0.mk ((Nat.le_trans HW0.out (by rw [hg];exact (keep_size (w:=w) (g:=g) (row:=none) (uP HK)):w.heap.size≤gb258):w0.heap.size≤gb258));replace HK:=Aside0.mk (KeepBut.trans (uP HK) (KeepBut.of_below hb g none) (.inl rfl));have NB0_258:=Aside0.mk ((by rw [hg];exact Nat.ne_of_lt (IsS67.lt (show IsS67 w0 _ g s0_0 s0_1 s0_2 from IsS67.u HI0)):g≠gb258));have NB258_0:=Aside0.mk ((by rw [hg];exact Nat.ne_of_gt (IsS67.lt (show IsS67 w0 _ g s0_0 s0_1 s0_2 from IsS67.u HI0)):gb258≠g));replace HI0:=Aside0.mk (IsS67.below (IsS67.u HI0) hb);clear hb hbox hg)|(refine gA (some 14) Try.func58 #[.pointer (some ⟨g,0,none⟩), .int .i64 5] ?_;(with_reducible refine (spec_l1Cur_pick.calls g s0_0 s0_1 s0_2 5 t259 t260 t261 w0 _ (IsS67.u HI0) (uB HB) A3.out).mono ?_);rintro e w21 ⟨rfl,hi,hb,hk⟩;refine ⟨_,rfl,?_⟩;replace BK258:=Aside0.mk (KeepBut.blk hk (g':=gb258) (o:= .cells #[.slice none 0 0] 26 (0,0)) (uK BK258) NB258_0.out (by simp));replace HK:=Aside0.mk (KeepBut.trans (uP HK) hk (.inl rfl));replace HB:=Aside0.mk (hb);replace HI0:=Aside0.mk (hi);(try clear hb hk hi))|(refine gA (some 31) Try.func58 #[.pointer (some ⟨g,0,none⟩), .int .i64 2] ?_;(with_reducible refine (spec_l1Cur_pick.calls g s0_0 t260 t261 2 t272 t273 t274 w0 _ (IsS67.u HI0) (uB HB) A18.out).mono ?_);rintro e w22 ⟨rfl,hi,hb,hk⟩;refine ⟨_,rfl,?_⟩;replace BK258:=Aside0.mk (KeepBut.blk hk (g':=gb258) (o:= .cells #[.slice none 0 0] 26 (0,0)) (uK BK258) NB258_0.out (by simp));replace HK:=Aside0.mk (KeepBut.trans (uP HK) hk (.inl rfl));replace HB:=Aside0.mk (hb);replace HI0:=Aside0.mk (hi);(try clear hb hk hi))|(refine gA (some 33) Try.func136 #[.int .i64 (wrap64 (1+t272))] ?_;(with_reducible refine (spec_Staircase.calls k (wrap64 (1+t272)) t275 t278 _ A19.out).mono ?_);rintro e w23 ⟨v276,rfl,ho0,hb⟩;refine ⟨_,rfl,?_⟩;have HO277:=Aside0.mk (Kd.R_lower ho0 (keep_size (w:=w) (g:=g) (row:=none) (uP HK)));replace HI0:=Aside0.mk (IsS67.below (IsS67.u HI0) hb);replace BK258:=Aside0.mk (blk_below (uK BK258) hb);replace HK:=Aside0.mk (KeepBut.trans (uP HK) (KeepBut.of_below hb g none) (.inl rfl));replace HB:=Aside0.mk (below_step (uB HB) hb);(try clear hb ho0))|(refine bE (N:=5) (cs:= #[.slice none 0 0]) (t:=26) ?_;intro gb279 hg w24 hbox hb;replace HO277:=Aside0.mk (Kd.R_below (uR HO277) hb);replace HB:=Aside0.mk (below_step (uB HB) hb);have BK279:=Aside0.mk (hbox);have GW279:=Aside0.mk ((by rw [hg];exact (keep_size (w:=w) (g:=g) (row:=none) (uP HK)):w.heap.size≤gb279));have GE279:=Aside0.mk ((Nat.le_trans HW0.out (by rw [hg];exact (keep_size (w:=w) (g:=g) (row:=none) (uP HK)):w.heap.size≤gb279):w0.heap.size≤gb279));replace HK:=Aside0.mk (KeepBut.trans (uP HK) (KeepBut.of_below hb g none) (.inl rfl));have NB258_279:=Aside0.mk ((by rw [hg];exact Nat.ne_of_lt (blk_lt (uK BK258)):gb258≠gb279));have NB279_258:=Aside0.mk ((by rw [hg];exact Nat.ne_of_gt (blk_lt (uK BK258)):gb279≠gb258));replace BK258:=Aside0.mk (blk_below (uK BK258) hb);have NB0_279:=Aside0.mk ((by rw [hg];exact Nat.ne_of_lt (IsS67.lt (show IsS67 w0 _ g s0_0 t273 t274 from IsS67.u HI0)):g≠gb279));have NB279_0:=Aside0.mk ((by rw [hg];exact Nat.ne_of_gt (IsS67.lt (show IsS67 w0 _ g s0_0 t273 t274 from IsS67.u HI0)):gb279≠g));replace HI0:=Aside0.mk (IsS67.below (IsS67.u HI0) hb);clear hb hbox hg;obtain ⟨Ao25,co25,eo25⟩:=Kd.R_slice HO277.out;subst eo25;have hnb26:=NB279_258.out;have hnc26:=NB258_279.out;have hnb27:=NB279_0.out;have hnc27:=NB0_279.out;have hcz28_0:=bC BK279;have hfz28_0:=blk_frozen BK279.out 0;have hnb29:=NB258_0.out;have hnc29:=NB0_258.out;have hcz30_0:=bC BK258;have hfz30_0:=blk_frozen BK258.out 0));refine bodyPost_ret (results_cell_row rfl _ _ gb258 26 #[.slice Ao25 t275.length co25] (0,0) _ rfl (by (with_reducible repeat (first|refine blk_drewN ?_ _|refine blk_drew ?_|refine blk_alloc ?_ _));refine blk_put (cs:= #[.slice none 0 0]) ?_ 0 _ rfl;(with_reducible repeat (first|refine blk_drewN ?_ _|refine blk_drew ?_|refine blk_alloc ?_ _));refine blk_far ?_ NB258_279.out _;(with_reducible repeat (first|refine blk_drewN ?_ _|refine blk_drew ?_|refine blk_alloc ?_ _));exact BK258.out) Try.underlying26 rfl (by kernel_rfl)) rfl ?_;exact ⟨_,by first|rfl|(simp [errW_none,errW_some] <;>rfl)|(simp [*,errW_none,errW_some] <;>rfl),by (with_reducible repeat (first|apply Kd.R_alloc|apply Kd.R_drewN|apply Kd.R_drew));exact Kd.R_mono (Kd.R_far (p:=⟨gb258,0,none⟩) (Kd.R_far (p:=⟨gb279,0,none⟩) (Kd.R_types (Kd.R_types HO277.out BK279.out (by decide)) BK258.out (by decide)) (fun _ hk=>hk.1.2) (.slice Ao25 t275.length co25)) (fun _ hk=>hk.2) (.slice Ao25 t275.length co25)) (fun _ hk=>trivial),by repeat (first|(with_reducible first|exact HI0.out|apply IsS67.alloc|apply IsS67.drewN|apply IsS67.drew|apply IsS67.set_1|apply IsS67.set_2|refine IsS67.far ?_ NB0_258.out _|refine IsS67.far ?_ NB0_279.out _)|exact HI0.out),by repeat (first|(with_reducible first|exact HB.out|apply below_alloc|apply pw_below_drewN|apply below_drew1|refine below_set ?_ (IsS67.ge HI0.out)|refine below_set ?_ GE258.out|refine below_set ?_ GE279.out)|exact HB.out),by repeat (first|(with_reducible first|exact HK.out|apply KeepBut.set_|apply keep_drewN|apply keep_drew|apply keep_alloc|refine keep_far ?_ GW258.out _|refine keep_far ?_ GW279.out _)|exact HK.out)⟩
  ·
   rw [if_neg c17] at H;have c17b0:(t259==1)=false:=beq_eq_false_iff_ne.mpr c17;have c17b1:(t259 !=1)=true:=bne_iff_ne.mpr c17
   by_cases c31:t259=2
   ·
    rw [if_pos c31] at H;have c31b0:(t259==2)=true:=beq_iff_eq.mpr c31;have c31b1:(t259 !=2)=false:=bne_eq_false_iff_eq.mpr c31;clear c31;obtain ⟨⟨t280,t281,t282⟩,A32,H⟩:=bs H;(try dsimp only at H)
    obtain ⟨⟨t283,t286⟩,A33,H⟩:=bs H;(try dsimp only at H)
    simp only [Option.some.injEq,Prod.mk.injEq] at H;obtain ⟨rfl,rfl,rfl⟩:=H;go_enter Try.func130,Try.ntmps130;go_wp2_with (first|(refine bE (N:=4) (cs:= #[.slice none 0 0]) (t:=26) ?_;intro gb258 hg w34 hbox hb;replace HB:=Aside0.mk (below_step (uB HB) hb);have BK258:=Aside0.mk (hbox);have GW258:=Aside0.mk ((by rw [hg];exact (keep_size (w:=w) (g:=g) (row:=none) (uP HK)):w.heap.size≤gb258));have GE258:=Aside0.mk ((Nat.le_trans HW0.out (by rw [hg];exact (keep_size (w:=w) (g:=g) (row:=none) (uP HK)):w.heap.size≤gb258):w0.heap.size≤gb258));replace HK:=Aside0.mk (KeepBut.trans (uP HK) (KeepBut.of_below hb g none) (.inl rfl));have NB0_258:=Aside0.mk ((by rw [hg];exact Nat.ne_of_lt (IsS67.lt (show IsS67 w0 _ g s0_0 s0_1 s0_2 from IsS67.u HI0)):g≠gb258));have NB258_0:=Aside0.mk ((by rw [hg];exact Nat.ne_of_gt (IsS67.lt (show IsS67 w0 _ g s0_0 s0_1 s0_2 from IsS67.u HI0)):gb258≠g));replace HI0:=Aside0.mk (IsS67.below (IsS67.u HI0) hb);clear hb hbox hg)|(refine gA (some 14) Try.func58 #[.pointer (some ⟨g,0,none⟩), .int .i64 5] ?_;(with_reducible refine (spec_l1Cur_pick.calls g s0_0 s0_1 s0_2 5 t259 t260 t261 w0 _ (IsS67.u HI0) (uB HB) A3.out).mono ?_);rintro e w35 ⟨rfl,hi,hb,hk⟩;refine ⟨_,rfl,?_⟩;replace BK258:=Aside0.mk (KeepBut.blk hk (g':=gb258) (o:= .cells #[.slice none 0 0] 26 (0,0)) (uK BK258) NB258_0.out (by simp));replace HK:=Aside0.mk (KeepBut.trans (uP HK) hk (.inl rfl));replace HB:=Aside0.mk (hb);replace HI0:=Aside0.mk (hi);(try clear hb hk hi))|(refine gA (some 42) Try.func58 #[.pointer (some ⟨g,0,none⟩), .int .i64 a1] ?_;(with_reducible refine (spec_l1Cur_pick.calls g s0_0 t260 t261 a1 t280 t281 t282 w0 _ (IsS67.u HI0) (uB HB) A32.out).mono ?_);rintro e w36 ⟨rfl,hi,hb,hk⟩;refine ⟨_,rfl,?_⟩;replace BK258:=Aside0.mk (KeepBut.blk hk (g':=gb258) (o:= .cells #[.slice none 0 0] 26 (0,0)) (uK BK258) NB258_0.out (by simp));replace HK:=Aside0.mk (KeepBut.trans (uP HK) hk (.inl rfl));replace HB:=Aside0.mk (hb);replace HI0:=Aside0.mk (hi);(try clear hb hk hi))|(refine gA (some 44) Try.func137 #[.int .i64 (wrap64 (1+t280))] ?_;(with_reducible refine (spec_Fence.calls k (wrap64 (1+t280)) t283 t286 _ A33.out).mono ?_);rintro e w37 ⟨v284,rfl,ho0,hb⟩;refine ⟨_,rfl,?_⟩;have HO285:=Aside0.mk (Kd.R_lower ho0 (keep_size (w:=w) (g:=g) (row:=none) (uP HK)));replace HI0:=Aside0.mk (IsS67.below (IsS67.u HI0) hb);replace BK258:=Aside0.mk (blk_below (uK BK258) hb);replace HK:=Aside0.mk (KeepBut.trans (uP HK) (KeepBut.of_below hb g none) (.inl rfl));replace HB:=Aside0.mk (below_step (uB HB) hb);(try clear hb ho0))|(refine bE (N:=7) (cs:= #[.slice none 0 0]) (t:=26) ?_;intro gb287 hg w38 hbox hb;replace HO285:=Aside0.mk (Kd.R_below (uR HO285) hb);replace HB:=Aside0.mk (below_step (uB HB) hb);have BK287:=Aside0.mk (hbox);have GW287:=Aside0.mk ((by rw [hg];exact (keep_size (w:=w) (g:=g) (row:=none) (uP HK)):w.heap.size≤gb287));have GE287:=Aside0.mk ((Nat.le_trans HW0.out (by rw [hg];exact (keep_size (w:=w) (g:=g) (row:=none) (uP HK)):w.heap.size≤gb287):w0.heap.size≤gb287));replace HK:=Aside0.mk (KeepBut.trans (uP HK) (KeepBut.of_below hb g none) (.inl rfl));have NB258_287:=Aside0.mk ((by rw [hg];exact Nat.ne_of_lt (blk_lt (uK BK258)):gb258≠gb287));have NB287_258:=Aside0.mk ((by rw [hg];exact Nat.ne_of_gt (blk_lt (uK BK258)):gb287≠gb258));replace BK258:=Aside0.mk (blk_below (uK BK258) hb);have NB0_287:=Aside0.mk ((by rw [hg];exact Nat.ne_of_lt (IsS67.lt (show IsS67 w0 _ g s0_0 t281 t282 from IsS67.u HI0)):g≠gb287));have NB287_0:=Aside0.mk ((by rw [hg];exact Nat.ne_of_gt (IsS67.lt (show IsS67 w0 _ g s0_0 t281 t282 from IsS67.u HI0)):gb287≠g));replace HI0:=Aside0.mk (IsS67.below (IsS67.u HI0) hb);clear hb hbox hg;obtain ⟨Ao39,co39,eo39⟩:=Kd.R_slice HO285.out;subst eo39;have hnb40:=NB287_258.out;have hnc40:=NB258_287.out;have hnb41:=NB287_0.out;have hnc41:=NB0_287.out;have hcz42_0:=bC BK287;have hfz42_0:=blk_frozen BK287.out 0;have hnb43:=NB258_0.out;have hnc43:=NB0_258.out;have hcz44_0:=bC BK258;have hfz44_0:=blk_frozen BK258.out 0));refine bodyPost_ret (results_cell_row rfl _ _ gb258 26 #[.slice Ao39 t283.length co39] (0,0) _ rfl (by (with_reducible repeat (first|refine blk_drewN ?_ _|refine blk_drew ?_|refine blk_alloc ?_ _));refine blk_put (cs:= #[.slice none 0 0]) ?_ 0 _ rfl;(with_reducible repeat (first|refine blk_drewN ?_ _|refine blk_drew ?_|refine blk_alloc ?_ _));refine blk_far ?_ NB258_287.out _;(with_reducible repeat (first|refine blk_drewN ?_ _|refine blk_drew ?_|refine blk_alloc ?_ _));exact BK258.out) Try.underlying26 rfl (by kernel_rfl)) rfl ?_;exact ⟨_,by first|rfl|(simp [errW_none,errW_some] <;>rfl)|(simp [*,errW_none,errW_some] <;>rfl),by (with_reducible repeat (first|apply Kd.R_alloc|apply Kd.R_drewN|apply Kd.R_drew));exact Kd.R_mono (Kd.R_far (p:=⟨gb258,0,none⟩) (Kd.R_far (p:=⟨gb287,0,none⟩) (Kd.R_types (Kd.R_types HO285.out BK287.out (by decide)) BK258.out (by decide)) (fun _ hk=>hk.1.2) (.slice Ao39 t283.length co39)) (fun _ hk=>hk.2) (.slice Ao39 t283.length co39)) (fun _ hk=>trivial),by repeat (first|(with_reducible first|exact HI0.out|apply IsS67.alloc|apply IsS67.drewN|apply IsS67.drew|apply IsS67.set_1|apply IsS67.set_2|refine IsS67.far ?_ NB0_258.out _|refine IsS67.far ?_ NB0_287.out _)|exact HI0.out),by repeat (first|(with_reducible first|exact HB.out|apply below_alloc|apply pw_below_drewN|apply below_drew1|refine below_set ?_ (IsS67.ge HI0.out)|refine below_set ?_ GE258.out|refine below_set ?_ GE287.out)|exact HB.out),by repeat (first|(with_reducible first|exact HK.out|apply KeepBut.set_|apply keep_drewN|apply keep_drew|apply keep_alloc|refine keep_far ?_ GW258.out _|refine keep_far ?_ GW287.out _)|exact HK.out)⟩
   ·
    rw [if_neg c31] at H;have c31b0:(t259==2)=false:=beq_eq_false_iff_ne.mpr c31;have c31b1:(t259 !=2)=true:=bne_iff_ne.mpr c31;obtain ⟨⟨t288,t289,t290⟩,A45,H⟩:=bs H;(try dsimp only at H)
    obtain ⟨⟨t291,t292,t293⟩,A46,H⟩:=bs H;(try dsimp only at H)
    have H':=Aside0.mk H;clear H;go_enter Try.func130,Try.ntmps130;go_wp2_with (first|(refine bE (N:=4) (cs:= #[.slice none 0 0]) (t:=26) ?_;intro gb258 hg w47 hbox hb;replace HB:=Aside0.mk (below_step (uB HB) hb);have BK258:=Aside0.mk (hbox);have GW258:=Aside0.mk ((by rw [hg];exact (keep_size (w:=w) (g:=g) (row:=none) (uP HK)):w.heap.size≤gb258));have GE258:=Aside0.mk ((Nat.le_trans HW0.out (by rw [hg];exact (keep_size (w:=w) (g:=g) (row:=none) (uP HK)):w.heap.size≤gb258):w0.heap.size≤gb258));replace HK:=Aside0.mk (KeepBut.trans (uP HK) (KeepBut.of_below hb g none) (.inl rfl));have NB0_258:=Aside0.mk ((by rw [hg];exact Nat.ne_of_lt (IsS67.lt (show IsS67 w0 _ g s0_0 s0_1 s0_2 from IsS67.u HI0)):g≠gb258));have NB258_0:=Aside0.mk ((by rw [hg];exact Nat.ne_of_gt (IsS67.lt (show IsS67 w0 _ g s0_0 s0_1 s0_2 from IsS67.u HI0)):gb258≠g));replace HI0:=Aside0.mk (IsS67.below (IsS67.u HI0) hb);clear hb hbox hg)|(refine gA (some 14) Try.func58 #[.pointer (some ⟨g,0,none⟩), .int .i64 5] ?_;(with_reducible refine (spec_l1Cur_pick.calls g s0_0 s0_1 s0_2 5 t259 t260 t261 w0 _ (IsS67.u HI0) (uB HB) A3.out).mono ?_);rintro e w48 ⟨rfl,hi,hb,hk⟩;refine ⟨_,rfl,?_⟩;replace BK258:=Aside0.mk (KeepBut.blk hk (g':=gb258) (o:= .cells #[.slice none 0 0] 26 (0,0)) (uK BK258) NB258_0.out (by simp));replace HK:=Aside0.mk (KeepBut.trans (uP HK) hk (.inl rfl));replace HB:=Aside0.mk (hb);replace HI0:=Aside0.mk (hi);(try clear hb hk hi))|(refine gA (some 50) Try.func58 #[.pointer (some ⟨g,0,none⟩), .int .i64 a1] ?_;(with_reducible refine (spec_l1Cur_pick.calls g s0_0 t260 t261 a1 t288 t289 t290 w0 _ (IsS67.u HI0) (uB HB) A45.out).mono ?_);rintro e w49 ⟨rfl,hi,hb,hk⟩;refine ⟨_,rfl,?_⟩;replace BK258:=Aside0.mk (KeepBut.blk hk (g':=gb258) (o:= .cells #[.slice none 0 0] 26 (0,0)) (uK BK258) NB258_0.out (by simp));replace HK:=Aside0.mk (KeepBut.trans (uP HK) hk (.inl rfl));replace HB:=Aside0.mk (hb);replace HI0:=Aside0.mk (hi);(try clear hb hk hi))|(refine gA (some 55) Try.func58 #[.pointer (some ⟨g,0,none⟩), .int .i64 (wrap64 (2*(wrap64 (1+t288))))] ?_;(with_reducible refine (spec_l1Cur_pick.calls g s0_0 t289 t290 (wrap64 (2*(wrap64 (1+t288)))) t291 t292 t293 w0 _ (IsS67.u HI0) (uB HB) A46.out).mono ?_);rintro e w50 ⟨rfl,hi,hb,hk⟩;refine ⟨_,rfl,?_⟩;replace BK258:=Aside0.mk (KeepBut.blk hk (g':=gb258) (o:= .cells #[.slice none 0 0] 26 (0,0)) (uK BK258) NB258_0.out (by simp));replace HK:=Aside0.mk (KeepBut.trans (uP HK) hk (.inl rfl));replace HB:=Aside0.mk (hb);replace HI0:=Aside0.mk (hi);(try clear hb hk hi)))
    go_loopg [10,11] k (fun kq v10 v11 w'=> ∃ (x10_1:List (List Int)) (x11_1:Int) (x1001_1:Int) (x1002_1:Int),v11= .int .i64 x11_1∧Aside0 (spec_l1Cur_surePoset.l0 kq (wrap64 (1+t288)) x10_1 x11_1 s0_0 x1001_1 x1002_1=some (r1,r2,r3))∧Aside0 (kq≤k)∧Aside0 (Kd.S (Kd.slice 3 (Kd.int .i64)) 24 w' w.heap.size (fun _=>True) v10 x10_1)∧Aside0 (w'.heap[gb258]? =some (.cells #[(.slice none 0 0)] 26 (0,0)))∧Aside0 (IsS67 w0 w' g s0_0 x1001_1 x1002_1)∧Aside0 (KeepBut w w' g none)∧Aside0 (Below w0.heap.size w0 w'))
    case atStart=>exact ⟨(([] :List (List Int))),(t291),(t292),(t293),(by first|rfl|(simp;done)|(simp [*];done)),H',⟨Nat.le_refl _⟩,⟨by first|exact Kd.S_nil _ _ _ _ _|exact Kd.N_nil _ _ _ _ _|exact Kd.V_nil _ _ _ _ _|exact Kd.Q_nil _ _ _ _ _|exact Kd.R_nil _ _ _ _ _⟩,⟨uK BK258⟩,⟨IsS67.u HI0⟩,⟨uP HK⟩,⟨uB HB⟩⟩
    case round=>
     clear H'
     try clear c1
     try clear c2
     try clear p2
     try clear c3
     try clear c4
     try clear c4b0
     try clear c4b1
     try clear c5
     try clear c6
     try clear p6
     try clear c13
     try clear c15
     try clear c17
     try clear c17b0
     try clear c17b1
     try clear c26
     try clear c27
     try clear c29
     try clear c31
     try clear c31b0
     try clear c31b1
     try clear c40
     try clear c41
     try clear c43
     try clear hcz16_0
     try clear hcz28_0
     try clear hcz30_0
     try clear hcz42_0
     try clear hcz44_0
     try clear hfz16_0
     try clear hfz28_0
     try clear hfz30_0
     try clear hfz42_0
     try clear hfz44_0
     obtain ⟨x10_1,x11_1,x1001_1,x1002_1,rfl,HA,HK1,HO_10,BK258,HI0,HK,HB⟩:=hrel;cases gk with
     |zero=>exact absurd HA.out (by simp [spec_l1Cur_surePoset.l0])
     |succ k1=>
      have H:=HA.out;clear HA;simp only [spec_l1Cur_surePoset.l0] at H;have HC51:=Aside0.mk H;clear H;go_upto_region 13 with (fail)
      go_cut [61] (fun v61 wc=> ∃ (kq:Nat) (x61_50:Bool),v61= .bool x61_50∧Aside0 (spec_l1Cur_surePoset.j1 kq (wrap64 (1+t288)) x10_1 x11_1 x61_50 s0_0 x1001_1 x1002_1=some (r1,r2,r3))∧Aside0 (kq≤k1)∧Aside0 (Kd.S (Kd.slice 3 (Kd.int .i64)) 24 wc w.heap.size (fun _=>True) u10 x10_1)∧Aside0 (wc.heap[gb258]? =some (.cells #[(.slice none 0 0)] 26 (0,0)))∧Aside0 (IsS67 w0 wc g s0_0 x1001_1 x1002_1)∧Aside0 (KeepBut w wc g none)∧Aside0 (Below w0.heap.size w0 wc))
      case first=>
       have H:=HC51.out;clear HC51
       by_cases c52:x11_1>0
       ·
        rw [if_pos c52] at H;have c52b0:=decide_eq_true c52;clear c52
        (first|rw [c52b0] |(simp only [i64_w,i32_w];rw [c52b0])|skip)
        have H':=Aside0.mk H;clear H;go_wp2
        go_meet
        case rel=>exact ⟨_,(decide ((wrap64 (1+t288))>1)),(by first|rfl|(simp;done)|(simp [*];done)),H',⟨by have:=HK1.out;first|omega|exact Nat.le_refl _⟩,⟨uS HO_10⟩,⟨uK BK258⟩,⟨IsS67.u HI0⟩,⟨uP HK⟩,⟨uB HB⟩⟩
       ·
        rw [if_neg c52] at H;have c52b0:=decide_eq_false c52;clear c52
        (first|rw [c52b0] |(simp only [i64_w,i32_w];rw [c52b0])|skip)
        have H':=Aside0.mk H;clear H;go_wp2
        go_meet
        case rel=>exact ⟨_,(false),(by first|rfl|(simp;done)|(simp [*];done)),H',⟨by have:=HK1.out;first|omega|exact Nat.le_refl _⟩,⟨uS HO_10⟩,⟨uK BK258⟩,⟨IsS67.u HI0⟩,⟨uP HK⟩,⟨uB HB⟩⟩
      case rest=>
       clear HC51
       try clear c1
       try clear c2
       try clear p2
       try clear c3
       try clear c4
       try clear c4b0
       try clear c4b1
       try clear c5
       try clear c6
       try clear p6
       try clear c13
       try clear c15
       try clear c17
       try clear c17b0
       try clear c17b1
       try clear c26
       try clear c27
       try clear c29
       try clear c31
       try clear c31b0
       try clear c31b1
       try clear c40
       try clear c41
       try clear c43
       try clear c52
       try clear c52b0
       try clear hcz16_0
       try clear hcz28_0
       try clear hcz30_0
       try clear hcz42_0
       try clear hcz44_0
       try clear hfz16_0
       try clear hfz28_0
       try clear hfz30_0
       try clear hfz42_0
       try clear hfz44_0
       try clear p2
       try clear p6
       obtain ⟨kq,x61_50,rfl,HA,HJ50,HO_10,BK258,HI0,HK,HB⟩:=hcut;cases kq with
       |zero=>exact absurd HA.out (by simp [spec_l1Cur_surePoset.j1])
       |succ kj50=>
        have H:=HA.out;clear HA;simp only [spec_l1Cur_surePoset.j1] at H
        by_cases c53:x61_50=true
        ·
         subst c53;rw [if_pos rfl] at H;obtain ⟨⟨t294,t295,t296⟩,A54,H⟩:=bs H;(try dsimp only at H)
         obtain ⟨⟨t297,t298,t299⟩,A55,H⟩:=bs H;(try dsimp only at H)
         obtain ⟨y300,hy300⟩: ∃ y_:List Int,y_=(([t294,wrap64 ((wrap64 (t294+1))+t297)] :List Int)):=⟨_,rfl⟩
         replace H:(if x10_1.length<5864062014805 then (spec_l1Cur_surePoset.l0 kj50 (wrap64 (1+t288)) (x10_1++ [y300]) (wrap64 (x11_1 - 1)) s0_0 t298 t299) else (none))=some (r1,r2,r3):=by first|(rw [hy300];with_reducible exact H)|(have H2_:=(Option.bind_some _ _).symm.trans H;rw [hy300];with_reducible exact H2_)|(have H2_:=(Option.bind_some _ _).symm.trans H;with_reducible exact H2_)|with_reducible exact H|(rw [hy300];exact H)|exact H
         have Ny300:=Aside0.mk hy300;clear hy300
         by_cases c56:x10_1.length<5864062014805
         ·
          rw [if_pos c56] at H;have LMc56:=Aside0.mk c56;clear c56;obtain ⟨y303,hy303⟩: ∃ y_:List (List Int),y_=(x10_1++ [y300]):=⟨_,rfl⟩
          replace H:(spec_l1Cur_surePoset.l0 kj50 (wrap64 (1+t288)) y303 (wrap64 (x11_1 - 1)) s0_0 t298 t299)=some (r1,r2,r3):=by first|(rw [hy303];with_reducible exact H)|(have H2_:=(Option.bind_some _ _).symm.trans H;rw [hy303];with_reducible exact H2_)|(have H2_:=(Option.bind_some _ _).symm.trans H;with_reducible exact H2_)|with_reducible exact H|(rw [hy303];exact H)|exact H
          have Ny303:=Aside0.mk hy303;clear hy303;have H':=Aside0.mk H;clear H;go_wp2_with (first|(refine gA (some 67) Try.func58 #[.pointer (some ⟨g,0,none⟩), .int .i64 (wrap64 ((wrap64 (1+t288)) - 1))] ?_;(with_reducible refine (spec_l1Cur_pick.calls g s0_0 x1001_1 x1002_1 (wrap64 ((wrap64 (1+t288)) - 1)) t294 t295 t296 w0 _ (IsS67.u HI0) (uB HB) A54.out).mono ?_);rintro e w57 ⟨rfl,hi,hb,hk⟩;refine ⟨_,rfl,?_⟩;replace HO_10:=Aside0.mk (Kd.S_mono (Kd.S_keep (IsS67.apartS (show IsS67 w0 _ g s0_0 x1001_1 x1002_1 from IsS67.u HI0) (uS HO_10) (by decide)) hk (fun _ h=>h.2)) (fun _ h=>h.1));replace BK258:=Aside0.mk (KeepBut.blk hk (g':=gb258) (o:= .cells #[.slice none 0 0] 26 (0,0)) (uK BK258) NB258_0.out (by simp));replace HK:=Aside0.mk (KeepBut.trans (uP HK) hk (.inl rfl));replace HB:=Aside0.mk (hb);replace HI0:=Aside0.mk (hi);(try clear hb hk hi))|(refine gA (some 77) Try.func58 #[.pointer (some ⟨g,0,none⟩), .int .i64 (wrap64 ((wrap64 ((wrap64 (1+t288)) - 1)) - t294))] ?_;(with_reducible refine (spec_l1Cur_pick.calls g s0_0 t295 t296 (wrap64 ((wrap64 ((wrap64 (1+t288)) - 1)) - t294)) t297 t298 t299 w0 _ (IsS67.u HI0) (uB HB) A55.out).mono ?_);rintro e w58 ⟨rfl,hi,hb,hk⟩;refine ⟨_,rfl,?_⟩;replace HO_10:=Aside0.mk (Kd.S_mono (Kd.S_keep (IsS67.apartS (show IsS67 w0 _ g s0_0 t295 t296 from IsS67.u HI0) (uS HO_10) (by decide)) hk (fun _ h=>h.2)) (fun _ h=>h.1));replace BK258:=Aside0.mk (KeepBut.blk hk (g':=gb258) (o:= .cells #[.slice none 0 0] 26 (0,0)) (uK BK258) NB258_0.out (by simp));replace HK:=Aside0.mk (KeepBut.trans (uP HK) hk (.inl rfl));replace HB:=Aside0.mk (hb);replace HI0:=Aside0.mk (hi);(try clear hb hk hi))|((with_reducible refine gate_dst (N:=79) rfl ?_);refine Kd.R_lit (Kd.int .i64) _ 3 ?hg (N:=79) ?hd (xs:=([t294,wrap64 ((wrap64 (t294+1))+t297)] :List Int)) (inner:= [.int .i64 t294, .int .i64 (wrap64 ((wrap64 (t294+1))+t297))]) (ok:=fun _=>True) (okp:=fun _=>True) ?hr ?hp (fun _ hk=>hk) trivial (Below.refl _ _) (Nat.le_refl _) (by simp) ?_;(case hd=>rfl);(case hg=>rfl);(case hr=>first|(go_simp;done)|(go_simp;rfl));(case hp=>exact (Reps.one (show Kd.M (Kd.int .i64) _ _ _ t294 [.int .i64 t294] from rfl) (Reps.one (show Kd.M (Kd.int .i64) _ _ _ (wrap64 ((wrap64 (t294+1))+t297)) [.int .i64 (wrap64 ((wrap64 (t294+1))+t297))] from rfl) (Reps.none _ _))));intro v301 w59 ho60 hb hg_ hnew_;clear hg_ hnew_;(first|rw [←Ny300.out] at ho60|(simp only [Int.reduceToNat] at ho60;rw [←Ny300.out] at ho60));replace HO_10:=Aside0.mk (Kd.S_elder' (uS HO_10) (Kd.R_base ho60) hb);have HO302:=Aside0.mk (Kd.R_lower ho60 (keep_size (w:=w) (g:=g) (row:=none) (uP HK)));replace BK258:=Aside0.mk (blk_below (uK BK258) hb);replace HI0:=Aside0.mk (IsS67.below (IsS67.u HI0) hb);replace HK:=Aside0.mk (KeepBut.trans (uP HK) (KeepBut.of_below hb g none) (.inl rfl));replace HB:=Aside0.mk (below_step (uB HB) hb);clear hb ho60;obtain ⟨Ao62,co62,eo62⟩:=Kd.R_slice HO302.out;subst eo62)|((with_reducible refine gate_builtin (b:= .append) (xs:= #[.tmp 68, .tmp 80]) rfl ?_);at_builtin;refine Kd.S_append (Kd.slice 3 (Kd.int .i64)) w.heap.size rfl (.tmp 68) (.tmp 80) 29 24 (.slice none 0 0) 24 rfl Try.underlying29 info24 rfl (by decide) (by omega) u10 x10_1 y300 [.slice Ao62 y300.length co62] (fun _=>True) (fun k_=>some k_=(.slice Ao62 y300.length co62:Value).ownBlock) rfl rfl ?aP (fun k_ hk_=>((Kd.R_mono (ok':=fun k_=>((fun _=>True)) k_∧some k_≠(u10:Value).ownBlock) (Kd.R_apart' (HO302.out) (Kd.S_typed HO_10.out) (by decide)) (fun k_ hk=>⟨trivial,hk.2⟩))).1 k_ hk_.symm) ?aF ?aO (Below.refl _ _) ?aS ?aL ?_;(case aP=>exact Kd.M_row (Kd.R_mono (Kd.R_tight rfl (Kd.R_mono (ok':=fun k_=>((fun _=>True)) k_∧some k_≠(u10:Value).ownBlock) (Kd.R_apart' (HO302.out) (Kd.S_typed HO_10.out) (by decide)) (fun k_ hk=>⟨trivial,hk.2⟩))) (fun _ h_=>h_)));(case aF=>exact (fun _ _=>trivial));(case aO=>exact (by (with_reducible repeat (first|apply Kd.S_alloc|apply Kd.S_drewN|apply Kd.S_drew));exact Kd.S_mono HO_10.out (fun k_ hk=>⟨trivial,fun e_=>hk.2 e_⟩)));(case aS=>exact (keep_size (w:=w) (g:=g) (row:=none) (uP HK)));(case aL=>have:=LMc56.out;omega);intro v304 w61 ho hb hg hat;rw [←Ny303.out] at ho;replace BK258:=Aside0.mk (blk_grown (uK BK258) hg (Kd.S_ne HO_10.out BK258.out (by decide)));replace HI0:=Aside0.mk (IsS67.grown (IsS67.u HI0) hg (IsS67.own_neS HI0.out HO_10.out (by decide)));replace HB:=Aside0.mk (below_weaken (uB HB) HL.out hb);replace HK:=Aside0.mk (KeepBut.trans (uP HK) (KeepBut.of_grown hg g) (Kd.S_base2 HO_10.out));have HO305:=Aside0.mk (ho);clear HO_10 HO302;clear ho hb hg hat));go_roundg kj50
          case measure=>have:=HK1.out;have:=HJ50.out;omega
          case rel=>exact ⟨(y303),(wrap64 (x11_1 - 1)),(t298),(t299),(by first|rfl|(simp;done)|(simp [*];done)),H',⟨by have:=HK1.out;have:=HJ50.out;omega⟩,⟨uS HO305⟩,⟨uK BK258⟩,⟨IsS67.u HI0⟩,⟨uP HK⟩,⟨uB HB⟩⟩
         ·
          rw [if_neg c56] at H;exact absurd H (by simp)
        ·
         replace c53:=Bool.eq_false_iff.mpr c53;subst c53;rw [if_neg (show ¬ (false=true) by decide)] at H;obtain ⟨t306,A63,H⟩:=bs H;(try dsimp only at H)
         simp only [Option.some.injEq,Prod.mk.injEq] at H;obtain ⟨rfl,rfl,rfl⟩:=H;obtain ⟨Ao64,co64,eo64⟩:=Kd.S_slice HO_10.out;subst eo64;go_wp2_with (first|(refine gA (some 84) Try.func113 #[.int .i64 (wrap64 (1+t288)), .slice Ao64 x10_1.length co64] ?_;(with_reducible refine (spec_poFrom.calls kj50 (wrap64 (1+t288)) _ _ x10_1 t306 _ ?side1 ?side2 A63.out).mono ?_);(case side1=>repeat (first|exact (Kd.S_reads' HO_10.out).2.2|(with_reducible refine Kd.C_alloc ?_ _)|(with_reducible refine Kd.C_drewN ?_ _)|(with_reducible refine Kd.C_drew ?_)));(case side2=>exact (Kd.S_reads' HO_10.out).2.1);rintro e w65 ⟨v307,rfl,ho0,hb⟩;refine ⟨_,rfl,?_⟩;replace HO_10:=Aside0.mk (Kd.S_elder' (uS HO_10) (Kd.R_base ho0) hb);have HO308:=Aside0.mk (Kd.R_lower ho0 (keep_size (w:=w) (g:=g) (row:=none) (uP HK)));replace BK258:=Aside0.mk (blk_below (uK BK258) hb);replace HI0:=Aside0.mk (IsS67.below (IsS67.u HI0) hb);replace HK:=Aside0.mk (KeepBut.trans (uP HK) (KeepBut.of_below hb g none) (.inl rfl));replace HB:=Aside0.mk (below_step (uB HB) hb);(try clear hb ho0);obtain ⟨Ao66,co66,eo66⟩:=Kd.R_slice HO308.out;subst eo66;have hnb67:=NB258_0.out;have hnc67:=NB0_258.out;have hcz68_0:=bC BK258;have hfz68_0:=blk_frozen BK258.out 0));refine bodyPost_ret (results_cell_row rfl _ _ gb258 26 #[.slice Ao66 t306.length co66] (0,0) _ rfl (by (with_reducible repeat (first|refine blk_drewN ?_ _|refine blk_drew ?_|refine blk_alloc ?_ _));refine blk_put (cs:= #[.slice none 0 0]) ?_ 0 _ rfl;(with_reducible repeat (first|refine blk_drewN ?_ _|refine blk_drew ?_|refine blk_alloc ?_ _));exact BK258.out) Try.underlying26 rfl (by kernel_rfl)) rfl ?_;exact ⟨_,by first|rfl|(simp [errW_none,errW_some] <;>rfl)|(simp [*,errW_none,errW_some] <;>rfl),by (with_reducible repeat (first|apply Kd.R_alloc|apply Kd.R_drewN|apply Kd.R_drew));exact Kd.R_mono (Kd.R_far (p:=⟨gb258,0,none⟩) (Kd.R_types HO308.out BK258.out (by decide)) (fun _ hk=>hk.2) (.slice Ao66 t306.length co66)) (fun _ hk=>trivial),by repeat (first|(with_reducible first|exact HI0.out|apply IsS67.alloc|apply IsS67.drewN|apply IsS67.drew|apply IsS67.set_1|apply IsS67.set_2|refine IsS67.far ?_ NB0_258.out _)|exact HI0.out),by repeat (first|(with_reducible first|exact HB.out|apply below_alloc|apply pw_below_drewN|apply below_drew1|refine below_set ?_ (IsS67.ge HI0.out)|refine below_set ?_ GE258.out)|exact HB.out),by repeat (first|(with_reducible first|exact HK.out|apply KeepBut.set_|apply keep_drewN|apply keep_drew|apply keep_alloc|refine keep_far ?_ GW258.out _)|exact HK.out)⟩
end Go.Proofs.Ytkgngggppcmpfaa.L
end
