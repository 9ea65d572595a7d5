/- Laws about the given program: the law FnSievesOfTableaux answers true for every input that its row lets in; no condition is added to the given statement. Contracts of the Go functions that it reaches, and the plain proof over lists. -/
import Derived.Test.YtkgngggppcmpfaaGreatWFnSievesOfTableaux0
import Derived.Test.YtkgngggppcmpfaaGreatKFnSievesOfTableaux0
import Derived.Test.YtkgngggppcmpfaaGreatKFnSievesOfTableaux1
import Derived.Test.YtkgngggppcmpfaaGreatKFnSievesOfTableaux2
import Derived.Test.YtkgngggppcmpfaaGreatKFnSievesOfTableaux3
import Derived.Test.YtkgngggppcmpfaaGreatKFnSievesOfTableaux4
section
namespace Go.Proofs.YtkgngggppcmpfaaGreat.L
open Go.RowKit Go.Proofs.YtkgngggppcmpfaaGreatW.PrintWords Go.Proofs.YtkgngggppcmpfaaGreatW.PrintLast Go.Proofs.YtkgngggppcmpfaaGreatW.PrintMore Go.Proofs.YtkgngggppcmpfaaGreat.X
attribute [local go_sem] Qy Q0 Qbb Qbc Qp Qq Qz Q1
set_option linter.unusedVariables false
set_option linter.unusedSimpArgs false
mutual
def Qs.l0:Nat→Int→Int→List (List Int)→Int→Option (List Int)
 |0,_,_,_,_=>none
 |k+1,x0,x1,x5,x6=>if x6<x0 then (Qs.l1 k x0 x1 x5 x6 0) else ((Qbr.f k (wrap64 (x0*x1)) x5).bind fun t464=>(some t464))
def Qs.l1:Nat→Int→Int→List (List Int)→Int→Int→Option (List Int)
 |0,_,_,_,_,_=>none
 |k+1,x0,x1,x5,x6,x7=>if x7<x1 then (if (wrap64 (x6+1))<x0 then (if x5.length<5864062014805 then ((some (x5++ [(([wrap64 ((wrap64 (x1*x6))+x7),wrap64 ((wrap64 ((wrap64 (x1*x6))+x1))+x7)] :List Int))] :List (List Int))).bind fun y470=>(if (wrap64 (x7+1))<x1 then (if y470.length<5864062014805 then (Qs.l1 k x0 x1 (y470++ [(([wrap64 ((wrap64 (x1*x6))+x7),wrap64 ((wrap64 ((wrap64 (x1*x6))+x7))+1)] :List Int))]) x6 (wrap64 (x7+1))) else (none)) else (Qs.l1 k x0 x1 y470 x6 (wrap64 (x7+1))))) else (none)) else (if (wrap64 (x7+1))<x1 then (if x5.length<5864062014805 then (Qs.l1 k x0 x1 (x5++ [(([wrap64 ((wrap64 (x1*x6))+x7),wrap64 ((wrap64 ((wrap64 (x1*x6))+x7))+1)] :List Int))]) x6 (wrap64 (x7+1))) else (none)) else (Qs.l1 k x0 x1 x5 x6 (wrap64 (x7+1))))) else (Qs.l0 k x0 x1 x5 (wrap64 (x6+1)))
end
def Qs.f (k:Nat) (a0:Int) (a1:Int):Option (List Int):=Qs.l0 k a0 a1 ([] :List (List Int)) 0
theorem Qs.mono_l: ∀ k,(∀ y0 y1 y2 y3,LeO (Qs.l0 k y0 y1 y2 y3) (Qs.l0 (k+1) y0 y1 y2 y3))∧(∀ y0 y1 y2 y3 y4,LeO (Qs.l1 k y0 y1 y2 y3 y4) (Qs.l1 (k+1) y0 y1 y2 y3 y4))
 |0=>⟨fun _ _ _ _ r h=>by simp [Qs.l0] at h,fun _ _ _ _ _ r h=>by simp [Qs.l1] at h⟩
 |k+1=>by
  obtain ⟨ih0,ih1⟩:=Qs.mono_l k;refine ⟨?_,?_⟩
  all_goals
   intros
   first|unfold Qs.l0|unfold Qs.l1
   repeat' (with_reducible first|apply ih0|apply ih1|apply Qbr.mono|exact LeO.refl _|exact LeO.none _|refine LeO.ite ?_ ?_|refine LeO.bind ?_ (fun _=> ?_))
theorem Qs.mono: ∀ a0 a1 k,LeO (Qs.f k a0 a1) (Qs.f (k+1) a0 a1):=by
 intro a0 a1 k;obtain ⟨ih0,ih1⟩:=Qs.mono_l k;unfold Qs.f
 repeat' (with_reducible first|apply ih0|apply ih1|apply Qbr.mono|exact LeO.refl _|exact LeO.none _|refine LeO.ite ?_ ?_|refine LeO.bind ?_ (fun _=> ?_))
set_option maxHeartbeats 8000000 in
set_option maxRecDepth 100000 in
theorem Qs.calls (k:Nat) (a0:Int) (a1:Int) (r:List Int) (w:World) (h:Qs.f k a0 a1=some r):
 Calls Tryz.prog 209 #[.int .i64 a0, .int .i64 a1] w fun e w'=> ∃ v0_:Value,e= .returned (.agg #[v0_])∧Kd.R (Kd.int .i64) 3 w' w.heap.size (fun _=>True) v0_ r∧Below w.heap.size w w':=by
 have hu26:=Tryz.underlying26;have HB:=Zk (Below.refl w.heap.size w);have H:(Qs.l0 k a0 a1 ([] :List (List Int)) 0)=some r:=h;clear h;have H':=Zk H;clear H;go_enter Tryz.func209,Tryz.ntmps209;go_wp2_with (first|(refine bE (N:=4) (cs:= #[.slice none 0 0]) (t:=26) ?_;intro gb463 hg w3 hbox hb;have BK463:=Zk (hbox);have GW463:=Zk ((by rw [hg];exact (Qh (uB HB)):w.heap.size≤gb463));have GE463:=GW463;replace HB:=Zk (Qb (uB HB) hb);clear hb hbox hg))
 go_loopg [5,6] k (fun kq v5 v6 w'=> ∃ (x5_1:List (List Int)) (x6_1:Int),v6= .int .i64 x6_1∧Z0 (Qs.l0 kq a0 a1 x5_1 x6_1=some r)∧Z0 (kq≤k)∧Z0 (Kd.S (Kd.slice 3 (Kd.int .i64)) 24 w' w.heap.size (fun _=>True) v5 x5_1)∧Z0 (w'.heap[gb463]? =some (.cells #[(.slice none 0 0)] 26 (0,0)))∧Z0 (Below w.heap.size w w'))
 case atStart=>exact ⟨(([] :List (List Int))),(0),(by first|rfl|(simp;done)|(simp [*];done)),H',⟨Nat.le_refl _⟩,⟨by first|exact Kd.S_nil _ _ _ _ _|exact Kd.N_nil _ _ _ _ _|exact Kd.V_nil _ _ _ _ _|exact Kd.Q_nil _ _ _ _ _|exact Kd.R_nil _ _ _ _ _⟩,⟨uK BK463⟩,⟨(vB HB)⟩⟩
 case round=>
  clear H'
  skip
  obtain ⟨x5_1,x6_1,rfl,HA,HK1,HO_5,BK463,HB⟩:=hrel;cases gk with
  |zero=>exact absurd HA.out (by simp [Qs.l0])
  |succ k1=>
   have H:=HA.out;clear HA;simp only [Qs.l0] at H
   by_cases c4:x6_1<a0
   ·
    rw [if_pos c4] at H;have c4b0:=decide_eq_true c4;clear c4;have H':=Zk H;clear H;go_wp2
    go_loopg [5,7] k1 (fun kq v5 v7 w'=> ∃ (x5_2:List (List Int)) (x7_2:Int),v7= .int .i64 x7_2∧Z0 (Qs.l1 kq a0 a1 x5_2 x6_1 x7_2=some r)∧Z0 (kq≤k1)∧Z0 (Kd.S (Kd.slice 3 (Kd.int .i64)) 24 w' w.heap.size (fun _=>True) v5 x5_2)∧Z0 (w'.heap[gb463]? =some (.cells #[(.slice none 0 0)] 26 (0,0)))∧Z0 (Below w.heap.size w w'))
    case atStart=>exact ⟨(x5_1),(0),(by first|rfl|(simp;done)|(simp [*];done)),H',⟨Nat.le_refl _⟩,⟨uS HO_5⟩,⟨uK BK463⟩,⟨(vB HB)⟩⟩
    case round=>
     clear H'
     try clear c4b0
     obtain ⟨x5_2,x7_2,rfl,HA,HK2,HO_5,BK463,HB⟩:=hrel;cases gk with
     |zero=>exact absurd HA.out (by simp [Qs.l1])
     |succ k2=>
      have H:=HA.out;clear HA;simp only [Qs.l1] at H
      by_cases c5:x7_2<a1
      ·
       rw [if_pos c5] at H;have c5b0:=decide_eq_true c5;clear c5
       by_cases c6:(wrap64 (x6_1+1))<a0
       ·
        rw [if_pos c6] at H;have c6b0:=decide_eq_true c6;clear c6;obtain ⟨y467,hy467⟩: ∃ y_:List Int,y_=(([wrap64 ((wrap64 (a1*x6_1))+x7_2),wrap64 ((wrap64 ((wrap64 (a1*x6_1))+a1))+x7_2)] :List Int)):=⟨_,rfl⟩
        replace H:(if x5_2.length<5864062014805 then ((some (x5_2++ [y467] :List (List Int))).bind fun y470=>(if (wrap64 (x7_2+1))<a1 then (if y470.length<5864062014805 then (Qs.l1 k2 a0 a1 (y470++ [(([wrap64 ((wrap64 (a1*x6_1))+x7_2),wrap64 ((wrap64 ((wrap64 (a1*x6_1))+x7_2))+1)] :List Int))]) x6_1 (wrap64 (x7_2+1))) else (none)) else (Qs.l1 k2 a0 a1 y470 x6_1 (wrap64 (x7_2+1))))) else (none))=some r:=by first|(rw [hy467];with_reducible exact H)|(have H2_:=(Option.bind_some _ _).symm.trans H;rw [hy467];with_reducible exact H2_)|(have H2_:=(Option.bind_some _ _).symm.trans H;with_reducible exact H2_)|with_reducible exact H|(rw [hy467];exact H)|exact H
        have Ny467:=Zk hy467;clear hy467
        by_cases c7:x5_2.length<5864062014805
        ·
         rw [if_pos c7] at H;have LMc7:=Zk c7;clear c7;obtain ⟨y470,hy470⟩: ∃ y_:List (List Int),y_=(x5_2++ [y467]):=⟨_,rfl⟩
         replace H:(if (wrap64 (x7_2+1))<a1 then (if y470.length<5864062014805 then (Qs.l1 k2 a0 a1 (y470++ [(([wrap64 ((wrap64 (a1*x6_1))+x7_2),wrap64 ((wrap64 ((wrap64 (a1*x6_1))+x7_2))+1)] :List Int))]) x6_1 (wrap64 (x7_2+1))) else (none)) else (Qs.l1 k2 a0 a1 y470 x6_1 (wrap64 (x7_2+1))))=some r:=by first|(rw [hy470];with_reducible exact H)|(have H2_:=(Option.bind_some _ _).symm.trans H;rw [hy470];with_reducible exact H2_)|(have H2_:=(Option.bind_some _ _).symm.trans H;with_reducible exact H2_)|with_reducible exact H|(rw [hy470];exact H)|exact H
         have Ny470:=Zk hy470;clear hy470
         by_cases c8:(wrap64 (x7_2+1))<a1
         ·
          rw [if_pos c8] at H;have c8b0:=decide_eq_true c8;clear c8;obtain ⟨y473,hy473⟩: ∃ y_:List Int,y_=(([wrap64 ((wrap64 (a1*x6_1))+x7_2),wrap64 ((wrap64 ((wrap64 (a1*x6_1))+x7_2))+1)] :List Int)):=⟨_,rfl⟩
          replace H:(if y470.length<5864062014805 then (Qs.l1 k2 a0 a1 (y470++ [y473]) x6_1 (wrap64 (x7_2+1))) else (none))=some r:=by first|(rw [hy473];with_reducible exact H)|(have H2_:=(Option.bind_some _ _).symm.trans H;rw [hy473];with_reducible exact H2_)|(have H2_:=(Option.bind_some _ _).symm.trans H;with_reducible exact H2_)|with_reducible exact H|(rw [hy473];exact H)|exact H
          have Ny473:=Zk hy473;clear hy473
          by_cases c9:y470.length<5864062014805
          ·
           rw [if_pos c9] at H;have LMc9:=Zk c9;clear c9;obtain ⟨y476,hy476⟩: ∃ y_:List (List Int),y_=(y470++ [y473]):=⟨_,rfl⟩
           replace H:(Qs.l1 k2 a0 a1 y476 x6_1 (wrap64 (x7_2+1)))=some r:=by first|(rw [hy476];with_reducible exact H)|(have H2_:=(Option.bind_some _ _).symm.trans H;rw [hy476];with_reducible exact H2_)|(have H2_:=(Option.bind_some _ _).symm.trans H;with_reducible exact H2_)|with_reducible exact H|(rw [hy476];exact H)|exact H
           have Ny476:=Zk hy476;clear hy476;have H':=Zk H;clear H;go_wp2_with (first|((with_reducible refine Qu (N:=35) rfl ?_);refine Kd.R_lit (Kd.int .i64) _ 3 ?hg (N:=35) ?hd (xs:=([wrap64 ((wrap64 (a1*x6_1))+x7_2),wrap64 ((wrap64 ((wrap64 (a1*x6_1))+a1))+x7_2)] :List Int)) (inner:= [.int .i64 (wrap64 ((wrap64 (a1*x6_1))+x7_2)), .int .i64 (wrap64 ((wrap64 ((wrap64 (a1*x6_1))+a1))+x7_2))]) (ok:=fun _=>True) (okp:=fun _=>True) ?hr ?hp (fun _ hk=>hk) trivial (Below.refl _ _) (Nat.le_refl _) (by simp) ?_;(case hd=>rfl);(case hg=>rfl);(case hr=>first|(go_simp;done)|(go_simp;rfl));(case hp=>exact (Reps.one (show Kd.M (Kd.int .i64) _ _ _ (wrap64 ((wrap64 (a1*x6_1))+x7_2)) [.int .i64 (wrap64 ((wrap64 (a1*x6_1))+x7_2))] from rfl) (Reps.one (show Kd.M (Kd.int .i64) _ _ _ (wrap64 ((wrap64 ((wrap64 (a1*x6_1))+a1))+x7_2)) [.int .i64 (wrap64 ((wrap64 ((wrap64 (a1*x6_1))+a1))+x7_2))] from rfl) (Reps.none _ _))));intro v468 w10 ho11 hb hg_ hnew_;clear hg_ hnew_;(first|rw [←Ny467.out] at ho11|(simp only [Int.reduceToNat] at ho11;rw [←Ny467.out] at ho11));replace HO_5:=Zk (Kd.S_elder' (uS HO_5) (Kd.R_base ho11) hb);have HO469:=Zk (Kd.R_lower ho11 (Qh (vB HB)));replace BK463:=Zk (Qbg (uK BK463) hb);replace HB:=Zk (Qb (vB HB) hb);clear hb ho11;obtain ⟨Ao13,co13,eo13⟩:=Kd.R_slice HO469.out;subst eo13)|((with_reducible refine Qb1 (b:= .append) (xs:= #[.tmp 22, .tmp 36]) rfl ?_);at_builtin;refine Kd.S_append (Kd.slice 3 (Kd.int .i64)) (w0:=w) w.heap.size rfl (.tmp 22) (.tmp 36) 40 24 (.slice none 0 0) 24 rfl Tryz.underlying40 Qf3 rfl (by decide) (by omega) u5 x5_2 y467 [.slice Ao13 y467.length co13] (fun _=>True) (fun k_=>some k_=(.slice Ao13 y467.length co13:Value).ownBlock) rfl rfl ?aP (fun k_ hk_=>((Kd.R_mono (ok':=fun k_=>((fun _=>True)) k_∧some k_≠(u5:Value).ownBlock) (Kd.R_apart' (HO469.out) (Kd.S_typed HO_5.out) (by decide)) (fun k_ hk=>⟨trivial,hk.2⟩))).1 k_ hk_.symm) ?aF ?aO ?aB ?aS ?aL ?_;(case aP=>exact Kd.M_row (Kd.R_mono (Kd.R_tight rfl (Kd.R_mono (ok':=fun k_=>((fun _=>True)) k_∧some k_≠(u5:Value).ownBlock) (Kd.R_apart' (HO469.out) (Kd.S_typed HO_5.out) (by decide)) (fun k_ hk=>⟨trivial,hk.2⟩))) (fun _ h_=>h_)));(case aB=>exact (vB HB));(case aF=>exact (fun _ _=>trivial));(case aO=>exact (by (with_reducible repeat (first|apply Kd.S_alloc|apply Kd.S_drewN|apply Kd.S_drew));exact Kd.S_mono HO_5.out (fun k_ hk=>⟨trivial,fun e_=>hk.2 e_⟩)));(case aS=>exact (Qh (vB HB)));(case aL=>have:=LMc7.out;omega);intro v471 w12 ho hb hg hat;rw [←Ny470.out] at ho;replace BK463:=Zk (Qc8 (uK BK463) hg (Kd.S_ne HO_5.out BK463.out (by decide)));replace HB:=Zk (hb);have HO472:=Zk (ho);clear HO_5 HO469;clear ho hb hg hat)|((with_reducible refine Qu (N:=54) rfl ?_);refine Kd.R_lit (Kd.int .i64) _ 3 ?hg (N:=54) ?hd (xs:=([wrap64 ((wrap64 (a1*x6_1))+x7_2),wrap64 ((wrap64 ((wrap64 (a1*x6_1))+x7_2))+1)] :List Int)) (inner:= [.int .i64 (wrap64 ((wrap64 (a1*x6_1))+x7_2)), .int .i64 (wrap64 ((wrap64 ((wrap64 (a1*x6_1))+x7_2))+1))]) (ok:=fun _=>True) (okp:=fun _=>True) ?hr ?hp (fun _ hk=>hk) trivial (Below.refl _ _) (Nat.le_refl _) (by simp) ?_;(case hd=>rfl);(case hg=>rfl);(case hr=>first|(go_simp;done)|(go_simp;rfl));(case hp=>exact (Reps.one (show Kd.M (Kd.int .i64) _ _ _ (wrap64 ((wrap64 (a1*x6_1))+x7_2)) [.int .i64 (wrap64 ((wrap64 (a1*x6_1))+x7_2))] from rfl) (Reps.one (show Kd.M (Kd.int .i64) _ _ _ (wrap64 ((wrap64 ((wrap64 (a1*x6_1))+x7_2))+1)) [.int .i64 (wrap64 ((wrap64 ((wrap64 (a1*x6_1))+x7_2))+1))] from rfl) (Reps.none _ _))));intro v474 w14 ho15 hb hg_ hnew_;clear hg_ hnew_;(first|rw [←Ny473.out] at ho15|(simp only [Int.reduceToNat] at ho15;rw [←Ny473.out] at ho15));replace HO472:=Zk (Kd.S_elder' (uS HO472) (Kd.R_base ho15) hb);have HO475:=Zk (Kd.R_lower ho15 (Qh (vB HB)));replace BK463:=Zk (Qbg (uK BK463) hb);replace HB:=Zk (Qb (vB HB) hb);clear hb ho15;obtain ⟨Ao17,co17,eo17⟩:=Kd.R_slice HO475.out;subst eo17)|((with_reducible refine Qb1 (b:= .append) (xs:= #[.tmp 42, .tmp 55]) rfl ?_);at_builtin;refine Kd.S_append (Kd.slice 3 (Kd.int .i64)) (w0:=w) w.heap.size rfl (.tmp 42) (.tmp 55) 40 24 (.slice none 0 0) 24 rfl Tryz.underlying40 Qf3 rfl (by decide) (by omega) v471 y470 y473 [.slice Ao17 y473.length co17] (fun _=>True) (fun k_=>some k_=(.slice Ao17 y473.length co17:Value).ownBlock) rfl rfl ?aP (fun k_ hk_=>((Kd.R_mono (ok':=fun k_=>((fun _=>True)) k_∧some k_≠(v471:Value).ownBlock) (Kd.R_apart' (HO475.out) (Kd.S_typed HO472.out) (by decide)) (fun k_ hk=>⟨trivial,hk.2⟩))).1 k_ hk_.symm) ?aF ?aO ?aB ?aS ?aL ?_;(case aP=>exact Kd.M_row (Kd.R_mono (Kd.R_tight rfl (Kd.R_mono (ok':=fun k_=>((fun _=>True)) k_∧some k_≠(v471:Value).ownBlock) (Kd.R_apart' (HO475.out) (Kd.S_typed HO472.out) (by decide)) (fun k_ hk=>⟨trivial,hk.2⟩))) (fun _ h_=>h_)));(case aB=>exact (vB HB));(case aF=>exact (fun _ _=>trivial));(case aO=>exact (by (with_reducible repeat (first|apply Kd.S_alloc|apply Kd.S_drewN|apply Kd.S_drew));exact Kd.S_mono HO472.out (fun k_ hk=>⟨trivial,fun e_=>hk.2 e_⟩)));(case aS=>exact (Qh (vB HB)));(case aL=>have:=LMc9.out;omega);intro v477 w16 ho hb hg hat;rw [←Ny476.out] at ho;replace BK463:=Zk (Qc8 (uK BK463) hg (Kd.S_ne HO472.out BK463.out (by decide)));replace HB:=Zk (hb);have HO478:=Zk (ho);clear HO472 HO475;clear ho hb hg hat))
           go_roundg k2
           case measure=>have:=HK1.out;have:=HK2.out;omega
           case rel=>exact ⟨(y476),(wrap64 (x7_2+1)),(by first|rfl|(simp;done)|(simp [*];done)),H',⟨by have:=HK1.out;have:=HK2.out;omega⟩,⟨uS HO478⟩,⟨uK BK463⟩,⟨(vB HB)⟩⟩
          ·
           rw [if_neg c9] at H;exact absurd H (by simp)
         ·
          rw [if_neg c8] at H;have c8b0:=decide_eq_false c8;clear c8;have H':=Zk H;clear H;go_wp2_with (first|((with_reducible refine Qu (N:=35) rfl ?_);refine Kd.R_lit (Kd.int .i64) _ 3 ?hg (N:=35) ?hd (xs:=([wrap64 ((wrap64 (a1*x6_1))+x7_2),wrap64 ((wrap64 ((wrap64 (a1*x6_1))+a1))+x7_2)] :List Int)) (inner:= [.int .i64 (wrap64 ((wrap64 (a1*x6_1))+x7_2)), .int .i64 (wrap64 ((wrap64 ((wrap64 (a1*x6_1))+a1))+x7_2))]) (ok:=fun _=>True) (okp:=fun _=>True) ?hr ?hp (fun _ hk=>hk) trivial (Below.refl _ _) (Nat.le_refl _) (by simp) ?_;(case hd=>rfl);(case hg=>rfl);(case hr=>first|(go_simp;done)|(go_simp;rfl));(case hp=>exact (Reps.one (show Kd.M (Kd.int .i64) _ _ _ (wrap64 ((wrap64 (a1*x6_1))+x7_2)) [.int .i64 (wrap64 ((wrap64 (a1*x6_1))+x7_2))] from rfl) (Reps.one (show Kd.M (Kd.int .i64) _ _ _ (wrap64 ((wrap64 ((wrap64 (a1*x6_1))+a1))+x7_2)) [.int .i64 (wrap64 ((wrap64 ((wrap64 (a1*x6_1))+a1))+x7_2))] from rfl) (Reps.none _ _))));intro v468 w18 ho19 hb hg_ hnew_;clear hg_ hnew_;(first|rw [←Ny467.out] at ho19|(simp only [Int.reduceToNat] at ho19;rw [←Ny467.out] at ho19));replace HO_5:=Zk (Kd.S_elder' (uS HO_5) (Kd.R_base ho19) hb);have HO469:=Zk (Kd.R_lower ho19 (Qh (vB HB)));replace BK463:=Zk (Qbg (uK BK463) hb);replace HB:=Zk (Qb (vB HB) hb);clear hb ho19;obtain ⟨Ao21,co21,eo21⟩:=Kd.R_slice HO469.out;subst eo21)|((with_reducible refine Qb1 (b:= .append) (xs:= #[.tmp 22, .tmp 36]) rfl ?_);at_builtin;refine Kd.S_append (Kd.slice 3 (Kd.int .i64)) (w0:=w) w.heap.size rfl (.tmp 22) (.tmp 36) 40 24 (.slice none 0 0) 24 rfl Tryz.underlying40 Qf3 rfl (by decide) (by omega) u5 x5_2 y467 [.slice Ao21 y467.length co21] (fun _=>True) (fun k_=>some k_=(.slice Ao21 y467.length co21:Value).ownBlock) rfl rfl ?aP (fun k_ hk_=>((Kd.R_mono (ok':=fun k_=>((fun _=>True)) k_∧some k_≠(u5:Value).ownBlock) (Kd.R_apart' (HO469.out) (Kd.S_typed HO_5.out) (by decide)) (fun k_ hk=>⟨trivial,hk.2⟩))).1 k_ hk_.symm) ?aF ?aO ?aB ?aS ?aL ?_;(case aP=>exact Kd.M_row (Kd.R_mono (Kd.R_tight rfl (Kd.R_mono (ok':=fun k_=>((fun _=>True)) k_∧some k_≠(u5:Value).ownBlock) (Kd.R_apart' (HO469.out) (Kd.S_typed HO_5.out) (by decide)) (fun k_ hk=>⟨trivial,hk.2⟩))) (fun _ h_=>h_)));(case aB=>exact (vB HB));(case aF=>exact (fun _ _=>trivial));(case aO=>exact (by (with_reducible repeat (first|apply Kd.S_alloc|apply Kd.S_drewN|apply Kd.S_drew));exact Kd.S_mono HO_5.out (fun k_ hk=>⟨trivial,fun e_=>hk.2 e_⟩)));(case aS=>exact (Qh (vB HB)));(case aL=>have:=LMc7.out;omega);intro v471 w20 ho hb hg hat;rw [←Ny470.out] at ho;replace BK463:=Zk (Qc8 (uK BK463) hg (Kd.S_ne HO_5.out BK463.out (by decide)));replace HB:=Zk (hb);have HO472:=Zk (ho);clear HO_5 HO469;clear ho hb hg hat));go_roundg k2
          case measure=>have:=HK1.out;have:=HK2.out;omega
          case rel=>exact ⟨(y470),(wrap64 (x7_2+1)),(by first|rfl|(simp;done)|(simp [*];done)),H',⟨by have:=HK1.out;have:=HK2.out;omega⟩,⟨uS HO472⟩,⟨uK BK463⟩,⟨(vB HB)⟩⟩
        ·
         rw [if_neg c7] at H;exact absurd H (by simp)
       ·
        rw [if_neg c6] at H;have c6b0:=decide_eq_false c6;clear c6
        by_cases c22:(wrap64 (x7_2+1))<a1
        ·
         rw [if_pos c22] at H;have c22b0:=decide_eq_true c22;clear c22;obtain ⟨y479,hy479⟩: ∃ y_:List Int,y_=(([wrap64 ((wrap64 (a1*x6_1))+x7_2),wrap64 ((wrap64 ((wrap64 (a1*x6_1))+x7_2))+1)] :List Int)):=⟨_,rfl⟩
         replace H:(if x5_2.length<5864062014805 then (Qs.l1 k2 a0 a1 (x5_2++ [y479]) x6_1 (wrap64 (x7_2+1))) else (none))=some r:=by first|(rw [hy479];with_reducible exact H)|(have H2_:=(Option.bind_some _ _).symm.trans H;rw [hy479];with_reducible exact H2_)|(have H2_:=(Option.bind_some _ _).symm.trans H;with_reducible exact H2_)|with_reducible exact H|(rw [hy479];exact H)|exact H
         have Ny479:=Zk hy479;clear hy479
         by_cases c23:x5_2.length<5864062014805
         ·
          rw [if_pos c23] at H;have LMc23:=Zk c23;clear c23;obtain ⟨y482,hy482⟩: ∃ y_:List (List Int),y_=(x5_2++ [y479]):=⟨_,rfl⟩
          replace H:(Qs.l1 k2 a0 a1 y482 x6_1 (wrap64 (x7_2+1)))=some r:=by first|(rw [hy482];with_reducible exact H)|(have H2_:=(Option.bind_some _ _).symm.trans H;rw [hy482];with_reducible exact H2_)|(have H2_:=(Option.bind_some _ _).symm.trans H;with_reducible exact H2_)|with_reducible exact H|(rw [hy482];exact H)|exact H
          have Ny482:=Zk hy482;clear hy482;have H':=Zk H;clear H;go_wp2_with (first|((with_reducible refine Qu (N:=54) rfl ?_);refine Kd.R_lit (Kd.int .i64) _ 3 ?hg (N:=54) ?hd (xs:=([wrap64 ((wrap64 (a1*x6_1))+x7_2),wrap64 ((wrap64 ((wrap64 (a1*x6_1))+x7_2))+1)] :List Int)) (inner:= [.int .i64 (wrap64 ((wrap64 (a1*x6_1))+x7_2)), .int .i64 (wrap64 ((wrap64 ((wrap64 (a1*x6_1))+x7_2))+1))]) (ok:=fun _=>True) (okp:=fun _=>True) ?hr ?hp (fun _ hk=>hk) trivial (Below.refl _ _) (Nat.le_refl _) (by simp) ?_;(case hd=>rfl);(case hg=>rfl);(case hr=>first|(go_simp;done)|(go_simp;rfl));(case hp=>exact (Reps.one (show Kd.M (Kd.int .i64) _ _ _ (wrap64 ((wrap64 (a1*x6_1))+x7_2)) [.int .i64 (wrap64 ((wrap64 (a1*x6_1))+x7_2))] from rfl) (Reps.one (show Kd.M (Kd.int .i64) _ _ _ (wrap64 ((wrap64 ((wrap64 (a1*x6_1))+x7_2))+1)) [.int .i64 (wrap64 ((wrap64 ((wrap64 (a1*x6_1))+x7_2))+1))] from rfl) (Reps.none _ _))));intro v480 w24 ho25 hb hg_ hnew_;clear hg_ hnew_;(first|rw [←Ny479.out] at ho25|(simp only [Int.reduceToNat] at ho25;rw [←Ny479.out] at ho25));replace HO_5:=Zk (Kd.S_elder' (uS HO_5) (Kd.R_base ho25) hb);have HO481:=Zk (Kd.R_lower ho25 (Qh (vB HB)));replace BK463:=Zk (Qbg (uK BK463) hb);replace HB:=Zk (Qb (vB HB) hb);clear hb ho25;obtain ⟨Ao27,co27,eo27⟩:=Kd.R_slice HO481.out;subst eo27)|((with_reducible refine Qb1 (b:= .append) (xs:= #[.tmp 42, .tmp 55]) rfl ?_);at_builtin;refine Kd.S_append (Kd.slice 3 (Kd.int .i64)) (w0:=w) w.heap.size rfl (.tmp 42) (.tmp 55) 40 24 (.slice none 0 0) 24 rfl Tryz.underlying40 Qf3 rfl (by decide) (by omega) u5 x5_2 y479 [.slice Ao27 y479.length co27] (fun _=>True) (fun k_=>some k_=(.slice Ao27 y479.length co27:Value).ownBlock) rfl rfl ?aP (fun k_ hk_=>((Kd.R_mono (ok':=fun k_=>((fun _=>True)) k_∧some k_≠(u5:Value).ownBlock) (Kd.R_apart' (HO481.out) (Kd.S_typed HO_5.out) (by decide)) (fun k_ hk=>⟨trivial,hk.2⟩))).1 k_ hk_.symm) ?aF ?aO ?aB ?aS ?aL ?_;(case aP=>exact Kd.M_row (Kd.R_mono (Kd.R_tight rfl (Kd.R_mono (ok':=fun k_=>((fun _=>True)) k_∧some k_≠(u5:Value).ownBlock) (Kd.R_apart' (HO481.out) (Kd.S_typed HO_5.out) (by decide)) (fun k_ hk=>⟨trivial,hk.2⟩))) (fun _ h_=>h_)));(case aB=>exact (vB HB));(case aF=>exact (fun _ _=>trivial));(case aO=>exact (by (with_reducible repeat (first|apply Kd.S_alloc|apply Kd.S_drewN|apply Kd.S_drew));exact Kd.S_mono HO_5.out (fun k_ hk=>⟨trivial,fun e_=>hk.2 e_⟩)));(case aS=>exact (Qh (vB HB)));(case aL=>have:=LMc23.out;omega);intro v483 w26 ho hb hg hat;rw [←Ny482.out] at ho;replace BK463:=Zk (Qc8 (uK BK463) hg (Kd.S_ne HO_5.out BK463.out (by decide)));replace HB:=Zk (hb);have HO484:=Zk (ho);clear HO_5 HO481;clear ho hb hg hat));go_roundg k2
          case measure=>have:=HK1.out;have:=HK2.out;omega
          case rel=>exact ⟨(y482),(wrap64 (x7_2+1)),(by first|rfl|(simp;done)|(simp [*];done)),H',⟨by have:=HK1.out;have:=HK2.out;omega⟩,⟨uS HO484⟩,⟨uK BK463⟩,⟨(vB HB)⟩⟩
         ·
          rw [if_neg c23] at H;exact absurd H (by simp)
        ·
         rw [if_neg c22] at H;have c22b0:=decide_eq_false c22;clear c22;have H':=Zk H;clear H;go_wp2;go_roundg k2
         case measure=>have:=HK1.out;have:=HK2.out;omega
         case rel=>exact ⟨(x5_2),(wrap64 (x7_2+1)),(by first|rfl|(simp;done)|(simp [*];done)),H',⟨by have:=HK1.out;have:=HK2.out;omega⟩,⟨uS HO_5⟩,⟨uK BK463⟩,⟨(vB HB)⟩⟩
      ·
       rw [if_neg c5] at H;have c5b0:=decide_eq_false c5;clear c5;have H':=Zk H;clear H;go_wp2;go_roundg k2
       case measure=>have:=HK1.out;have:=HK2.out;omega
       case rel=>exact ⟨(x5_2),(wrap64 (x6_1+1)),(by first|rfl|(simp;done)|(simp [*];done)),H',⟨by have:=HK1.out;have:=HK2.out;omega⟩,⟨uS HO_5⟩,⟨uK BK463⟩,⟨(vB HB)⟩⟩
   ·
    rw [if_neg c4] at H;have c4b0:=decide_eq_false c4;clear c4;obtain ⟨t464,A28,H⟩:=bs H;(try dsimp only at H)
    obtain rfl:=Option.some.inj H;obtain ⟨Ao29,co29,eo29⟩:=Kd.S_slice HO_5.out;subst eo29;go_wp2_with (first|(refine gA (some 61) Tryz.func163 #[.int .i64 (wrap64 (a0*a1)), .slice Ao29 x5_1.length co29] ?_;(with_reducible refine (Qbr.calls k1 (wrap64 (a0*a1)) _ _ x5_1 t464 _ ?side1 ?side2 A28.out).mono ?_);(case side1=>repeat (first|exact (Kd.S_reads' HO_5.out).2.2|(with_reducible refine Kd.C_alloc ?_ _)|(with_reducible refine Kd.C_drewN ?_ _)|(with_reducible refine Kd.C_drew ?_)));(case side2=>exact (Kd.S_reads' HO_5.out).2.1);rintro e w30 ⟨v465,rfl,ho0,hb⟩;refine ⟨_,rfl,?_⟩;replace HO_5:=Zk (Kd.S_elder' (uS HO_5) (Kd.R_base ho0) hb);have HO466:=Zk (Kd.R_lower ho0 (Qh (vB HB)));replace BK463:=Zk (Qbg (uK BK463) hb);replace HB:=Zk (Qb (vB HB) hb);(try clear hb ho0);obtain ⟨Ao31,co31,eo31⟩:=Kd.R_slice HO466.out;subst eo31;have hcz32_0:=bC BK463;have hfz32_0:=Q6 BK463.out 0));refine bodyPost_ret (results_cell_row rfl _ _ gb463 26 #[.slice Ao31 t464.length co31] (0,0) _ rfl bP Tryz.underlying26 rfl (by kernel_rfl)) rfl ?_;exact ⟨_,by first|rfl|(simp [Qe,Qf] <;>rfl)|(simp [*,Qe,Qf] <;>rfl),by (with_reducible repeat (first|apply Kd.R_alloc|apply Kd.R_drewN|apply Kd.R_drew));exact Kd.R_mono (Kd.R_far (p:=⟨gb463,0,none⟩) (Kd.R_types HO466.out BK463.out (by decide)) (fun _ hk=>hk.2) (.slice Ao31 t464.length co31)) (fun _ hk=>trivial),(vB HB)⟩
end Go.Proofs.YtkgngggppcmpfaaGreat.L
end
section
namespace Go.Proofs.YtkgngggppcmpfaaGreat.L
open Go.RowKit Go.Proofs.YtkgngggppcmpfaaGreatW.PrintWords Go.Proofs.YtkgngggppcmpfaaGreatW.PrintLast Go.Proofs.YtkgngggppcmpfaaGreatW.PrintMore
attribute [local go_sem] Qy Q0 Qbb Qbc Qp Qq Qz Q1
set_option linter.unusedVariables false
set_option linter.unusedSimpArgs false
def Qct.l0:Nat→Int→List Int→Int→Int→Option (Bool)
 |0,_,_,_,_=>none
 |k+1,x1,x7,x8,x9=>if x9<x8 then (if 0≤x9 then (if x9<(x7.length:Int) then (if (rd x7 x9)=x1 then (some true) else (Qct.l0 k x1 x7 x8 (wrap64 (x9+1)))) else (none)) else (none)) else (some false)
def Qct.f (k:Nat) (l0:List Int) (a1:Int):Option (Bool):=Qct.l0 k a1 l0 (l0.length:Int) 0
theorem Qct.mono_l: ∀ k,(∀ y0 y1 y2 y3,LeO (Qct.l0 k y0 y1 y2 y3) (Qct.l0 (k+1) y0 y1 y2 y3))
 |0=>fun _ _ _ _ r h=>by simp [Qct.l0] at h
 |k+1=>by
  have ih0:=Qct.mono_l k
  ·
   intro y0 y1 y2 y3;unfold Qct.l0
   repeat' first
   |(with_reducible exact ih0 _ _ _ _)
   |(with_reducible exact LeO.refl _)
   |(with_reducible exact LeO.none _)
   |(with_reducible refine LeO.ite ?_ ?_)
   |(with_reducible refine LeO.bind ?_ (fun _=> ?_))
   |exact ih0 _ _ _ _
   |exact LeO.none _
   |refine LeO.ite ?_ ?_
   |refine LeO.bind ?_ (fun _=> ?_)
theorem Qct.mono: ∀ a0 a1 k,LeO (Qct.f k a0 a1) (Qct.f (k+1) a0 a1):=by
 intro a0 a1 k;have ih0:=Qct.mono_l k;unfold Qct.f
 repeat' (with_reducible first|apply ih0|exact LeO.refl _|exact LeO.none _|refine LeO.ite ?_ ?_|refine LeO.bind ?_ (fun _=> ?_))
set_option maxHeartbeats 8000000 in
set_option maxRecDepth 100000 in
theorem Qct.calls (k:Nat) (A0:Option Addr) (c0:Nat) (l0:List Int) (a1:Int) (r:Bool) (w:World) (hr0:Kd.C (Kd.int .i64) w A0 l0.length l0) (hc0:l0.length≤c0) (h:Qct.f k l0 a1=some r):
 Calls Tryz.prog 210 #[.slice A0 l0.length c0, .int .i64 a1] w fun e w'=>e= .returned (.bool r)∧Drawn0 w w':=by
 have HR0:=Zk hr0;have HC0:=Zk hc0;clear hr0 hc0;have H:(Qct.l0 k a1 l0 (l0.length:Int) 0)=some r:=h;clear h;have H':=Zk H;clear H;go_enter Tryz.func210,Tryz.ntmps210;go_wp2
 go_loopg [9] k (fun kq v9 w'=> ∃ (x9_1:Int),v9= .int .i64 x9_1∧Z0 (Qct.l0 kq a1 l0 (l0.length:Int) x9_1=some r)∧Z0 (kq≤k)∧Drawn0 w w')
 case atStart=>exact ⟨(0),(by first|rfl|(simp;done)|(simp [*];done)),H',⟨Nat.le_refl _⟩,by repeat (first|exact Drawn0.refl _|apply Drawn0.step)⟩
 case round=>
  clear H'
  skip
  obtain ⟨x9_1,rfl,HA,HK1,⟨m1,rfl⟩⟩:=hrel;cases gk with
  |zero=>exact absurd HA.out (by simp [Qct.l0])
  |succ k1=>
   have H:=HA.out;clear HA;simp only [Qct.l0] at H
   by_cases c3:x9_1<(l0.length:Int)
   ·
    rw [if_pos c3] at H;have c3b0:=decide_eq_true c3;clear c3
    by_cases c4:0≤x9_1
    ·
     rw [if_pos c4] at H;have c4b0:=decide_eq_true c4;clear c4
     by_cases c5:x9_1<(l0.length:Int)
     ·
      rw [if_pos c5] at H;have c5b0:=decide_eq_true c5;clear c5
      by_cases c6:(rd l0 x9_1)=a1
      ·
       rw [if_pos c6] at H;have c6b0:((rd l0 x9_1)==a1)=true:=beq_iff_eq.mpr c6;have c6b1:((rd l0 x9_1) !=a1)=false:=bne_eq_false_iff_eq.mpr c6;clear c6;obtain rfl:=Option.some.inj H;have p485:0≤(x9_1:Int):=of_decide_eq_true (by first|(with_reducible assumption)|assumption);have q485:x9_1<(l0.length:Int):=of_decide_eq_true (by first|(with_reducible assumption)|assumption);obtain ⟨ad485,e485,hx485_0⟩:=Kd.at_int HR0.out x9_1 p485 q485;cases e485;replace p485:=eq_true p485;replace q485:=eq_true q485;go_wp2
       go_ret
       exact ⟨by first|rfl|(simp;done)|(simp [*];done),by repeat (first|exact Drawn0.refl _|apply Drawn0.step)⟩
      ·
       rw [if_neg c6] at H;have c6b0:((rd l0 x9_1)==a1)=false:=beq_eq_false_iff_ne.mpr c6;have c6b1:((rd l0 x9_1) !=a1)=true:=bne_iff_ne.mpr c6;have H':=Zk H;clear H;have p485:0≤(x9_1:Int):=of_decide_eq_true (by first|(with_reducible assumption)|assumption);have q485:x9_1<(l0.length:Int):=of_decide_eq_true (by first|(with_reducible assumption)|assumption);obtain ⟨ad485,e485,hx485_0⟩:=Kd.at_int HR0.out x9_1 p485 q485;cases e485;replace p485:=eq_true p485;replace q485:=eq_true q485;go_wp2;go_roundg k1
       case measure=>have:=HK1.out;omega
       case rel=>exact ⟨(wrap64 (x9_1+1)),(by first|rfl|(simp;done)|(simp [*];done)),H',⟨by have:=HK1.out;omega⟩,by repeat (first|exact Drawn0.refl _|apply Drawn0.step)⟩
     ·
      rw [if_neg c5] at H;exact absurd H (by simp)
    ·
     rw [if_neg c4] at H;exact absurd H (by simp)
   ·
    rw [if_neg c3] at H;have c3b0:=decide_eq_false c3;clear c3;obtain rfl:=Option.some.inj H;go_wp2
    go_ret
    exact ⟨by first|rfl|(simp;done)|(simp [*];done),by repeat (first|exact Drawn0.refl _|apply Drawn0.step)⟩
end Go.Proofs.YtkgngggppcmpfaaGreat.L
end
section
namespace Go.Proofs.YtkgngggppcmpfaaGreat.L
open Go.RowKit Go.Proofs.YtkgngggppcmpfaaGreatW.PrintWords Go.Proofs.YtkgngggppcmpfaaGreatW.PrintLast Go.Proofs.YtkgngggppcmpfaaGreatW.PrintMore Go.Proofs.YtkgngggppcmpfaaGreat.X
attribute [local go_sem] Qy Q0 Qbb Qbc Qp Qq Qz Q1
set_option linter.unusedVariables false
set_option linter.unusedSimpArgs false
def Qd9.f (l0:List Int):Option (List Int):=(some (([] :List Int):List Int)).bind fun y486=>(if y486.length+l0.length<17592186044416 then (some (y486++l0)) else (none))
set_option maxHeartbeats 8000000 in
set_option maxRecDepth 100000 in
theorem Qd9.calls (A0:Option Addr) (c0:Nat) (l0:List Int) (r:List Int) (w:World) (hr0:Kd.C (Kd.int .i64) w A0 l0.length l0) (hc0:l0.length≤c0) (h:Qd9.f l0=some r):
 Calls Tryz.prog 273 #[.slice A0 l0.length c0] w fun e w'=> ∃ v0_:Value,e= .returned (v0_)∧Kd.R (Kd.int .i64) 3 w' w.heap.size (fun _=>True) v0_ r∧Below w.heap.size w w':=by
 have HR0:=Zk hr0;have HC0:=Zk hc0;clear hr0 hc0;have HB:=Zk (Below.refl w.heap.size w);have H:((some (([] :List Int):List Int)).bind fun y486=>(if y486.length+l0.length<17592186044416 then (some (y486++l0)) else (none)))=some r:=h;clear h;obtain ⟨y486,hy486⟩: ∃ y_:List Int,y_=(([] :List Int)):=⟨_,rfl⟩
 replace H:(if y486.length+l0.length<17592186044416 then (some (y486++l0)) else (none))=some r:=by first|(rw [hy486];with_reducible exact H)|(have H2_:=(Option.bind_some _ _).symm.trans H;rw [hy486];with_reducible exact H2_)|(have H2_:=(Option.bind_some _ _).symm.trans H;with_reducible exact H2_)|with_reducible exact H|(rw [hy486];exact H)|exact H
 have Ny486:=Zk hy486;clear hy486
 by_cases c2:y486.length+l0.length<17592186044416
 ·
  rw [if_pos c2] at H;have LMc2:=Zk c2;clear c2;obtain ⟨y489,hy489⟩: ∃ y_:List Int,y_=(y486++l0):=⟨_,rfl⟩
  replace H:(some y489)=some r:=by first|(rw [hy489];with_reducible exact H)|(have H2_:=(Option.bind_some _ _).symm.trans H;rw [hy489];with_reducible exact H2_)|(have H2_:=(Option.bind_some _ _).symm.trans H;with_reducible exact H2_)|with_reducible exact H|(rw [hy489];exact H)|exact H
  have Ny489:=Zk hy489;clear hy489;obtain rfl:=Option.some.inj H;go_enter Tryz.func273,Tryz.ntmps273;go_wp2_with (first|((with_reducible refine Qu (N:=3) rfl ?_);refine Kd.R_lit (Kd.int .i64) _ 3 ?hg (N:=3) ?hd (xs:=([] :List Int)) (inner:= []) (ok:=fun _=>True) (okp:=fun _=>True) ?hr ?hp (fun _ hk=>hk) trivial (Below.refl _ _) (Nat.le_refl _) (by simp) ?_;(case hd=>rfl);(case hg=>rfl);(case hr=>first|(go_simp;done)|(go_simp;rfl));(case hp=>exact (Reps.none _ _));intro v487 w3 ho4 hb hg_ hnew_;clear hg_ hnew_;(first|rw [←Ny486.out] at ho4|(simp only [Int.reduceToNat] at ho4;rw [←Ny486.out] at ho4));have HO488:=Zk (Kd.R_lower ho4 (Qh (uB HB)));replace HB:=Zk (Qb (uB HB) hb);clear hb ho4)|((with_reducible refine Qb1 (b:= .append) (xs:= #[.tmp 3, .tmp 4]) rfl ?_);at_builtin;refine Kd.R_append_rows (Kd.int .i64) (w0:=w) w.heap.size rfl (.tmp 3) (.tmp 4) 24 3 (.int .i64 0) 8 rfl Tryz.underlying24 Qdq rfl (by decide) (by omega) v487 y486 l0 _ _ _ (fun _=>True) (fun _=>False) rfl rfl ?aO ?aR (fun _ _ h=>h) (fun _ h=>h.elim) ?aF ?aB ?aS ?aL ?_;(case aR=>repeat (first|exact (Kd.C_below HR0.out HB.out)|(with_reducible refine Kd.C_alloc ?_ _)|(with_reducible refine Kd.C_drewN ?_ _)|(with_reducible refine Kd.C_drew ?_)));(case aB=>exact (uB HB));(case aF=>exact (fun _ _=>trivial));(case aO=>exact (uR HO488));(case aS=>exact (Qh (uB HB)));(case aL=>have:=LMc2.out;omega);intro v490 w5 ho hb hg hat;rw [←Ny489.out] at ho;replace HB:=Zk (hb);have HO491:=Zk (ho);clear HO488;clear ho hb hg hat))
  go_ret
  exact ⟨_,by first|rfl|(simp [Qe,Qf] <;>rfl)|(simp [*,Qe,Qf] <;>rfl),uR HO491,uB HB⟩
 ·
  rw [if_neg c2] at H;exact absurd H (by simp)
def Qcz.l0:Nat→List Int→Int→Int→Option (List Int)
 |0,_,_,_=>none
 |k+1,x0,x1,x5=>if x5<(x0.length:Int) then (if 0≤x5 then (if (rd x0 x5)≤x1 then (Qcz.l0 k x0 x1 (wrap64 (x5+1))) else (if x5≤(x0.length:Int) then ((Qd9.f (x0.take (x5:Int).toNat)).bind fun t494=>(if t494.length<17592186044416 then ((some (t494++ [x1] :List Int)).bind fun y497=>(if y497.length+(x0.drop (x5:Int).toNat).length<17592186044416 then (some (y497++(x0.drop (x5:Int).toNat))) else (none))) else (none))) else (none))) else (none)) else (if 0≤x5 then (if x5≤(x0.length:Int) then ((Qd9.f (x0.take (x5:Int).toNat)).bind fun t505=>(if t505.length<17592186044416 then ((some (t505++ [x1] :List Int)).bind fun y508=>(if y508.length+(x0.drop (x5:Int).toNat).length<17592186044416 then (some (y508++(x0.drop (x5:Int).toNat))) else (none))) else (none))) else (none)) else (none))
def Qcz.f (k:Nat) (l0:List Int) (a1:Int):Option (List Int):=Qcz.l0 k l0 a1 0
theorem Qcz.mono_l: ∀ k,(∀ y0 y1 y2,LeO (Qcz.l0 k y0 y1 y2) (Qcz.l0 (k+1) y0 y1 y2))
 |0=>fun _ _ _ r h=>by simp [Qcz.l0] at h
 |k+1=>by
  have ih0:=Qcz.mono_l k
  ·
   intro y0 y1 y2;unfold Qcz.l0
   repeat' first
   |(with_reducible exact ih0 _ _ _)
   |(with_reducible exact LeO.refl _)
   |(with_reducible exact LeO.none _)
   |(with_reducible refine LeO.ite ?_ ?_)
   |(with_reducible refine LeO.bind ?_ (fun _=> ?_))
   |exact ih0 _ _ _
   |exact LeO.none _
   |refine LeO.ite ?_ ?_
   |refine LeO.bind ?_ (fun _=> ?_)
theorem Qcz.mono: ∀ a0 a1 k,LeO (Qcz.f k a0 a1) (Qcz.f (k+1) a0 a1):=by
 intro a0 a1 k;have ih0:=Qcz.mono_l k;unfold Qcz.f
 repeat' (with_reducible first|apply ih0|exact LeO.refl _|exact LeO.none _|refine LeO.ite ?_ ?_|refine LeO.bind ?_ (fun _=> ?_))
set_option maxHeartbeats 8000000 in
set_option maxRecDepth 100000 in
theorem Qcz.calls (k:Nat) (A0:Option Addr) (c0:Nat) (l0:List Int) (a1:Int) (r:List Int) (w:World) (hr0:Kd.C (Kd.int .i64) w A0 l0.length l0) (hc0:l0.length≤c0) (h:Qcz.f k l0 a1=some r):
 Calls Tryz.prog 212 #[.slice A0 l0.length c0, .int .i64 a1] w fun e w'=> ∃ v0_:Value,e= .returned (v0_)∧Kd.R (Kd.int .i64) 3 w' w.heap.size (fun _=>True) v0_ r∧Below w.heap.size w w':=by
 have HR0:=Zk hr0;have HC0:=Zk hc0;clear hr0 hc0;have HB:=Zk (Below.refl w.heap.size w);have H:(Qcz.l0 k l0 a1 0)=some r:=h;clear h;have H':=Zk H;clear H;go_enter Tryz.func212,Tryz.ntmps212;go_wp2
 go_loopg [5] k (fun kq v5 w'=> ∃ (x5_1:Int),v5= .int .i64 x5_1∧Z0 (Qcz.l0 kq l0 a1 x5_1=some r)∧Z0 (kq≤k)∧Z0 (Below w.heap.size w w'))
 case atStart=>exact ⟨(0),(by first|rfl|(simp;done)|(simp [*];done)),H',⟨Nat.le_refl _⟩,⟨uB HB⟩⟩
 case round=>
  clear H'
  skip
  obtain ⟨x5_1,rfl,HA,HK1,HB⟩:=hrel;cases gk with
  |zero=>exact absurd HA.out (by simp [Qcz.l0])
  |succ k1=>
   have H:=HA.out;clear HA;simp only [Qcz.l0] at H
   by_cases c3:x5_1<(l0.length:Int)
   ·
    rw [if_pos c3] at H;have c3b0:=decide_eq_true c3;clear c3
    by_cases c4:0≤x5_1
    ·
     rw [if_pos c4] at H;have c4b0:=decide_eq_true c4;clear c4
     by_cases c5:(rd l0 x5_1)≤a1
     ·
      rw [if_pos c5] at H;have c5b0:=decide_eq_true c5;clear c5;have H':=Zk H;clear H;have p492:0≤(x5_1:Int):=of_decide_eq_true (by first|(with_reducible assumption)|assumption);have q492:x5_1<(l0.length:Int):=of_decide_eq_true (by first|(with_reducible assumption)|assumption);obtain ⟨ad492,e492,hx492_0⟩:=Kd.at_int HR0.out x5_1 p492 q492;cases e492;replace hx492_0:=(HB.out.cell (World.block_lt_of_cell? w _ hx492_0)).trans hx492_0;replace p492:=eq_true p492;replace q492:=eq_true q492;go_wp2;go_roundg k1
      case measure=>have:=HK1.out;omega
      case rel=>exact ⟨(wrap64 (x5_1+1)),(by first|rfl|(simp;done)|(simp [*];done)),H',⟨by have:=HK1.out;omega⟩,⟨uB HB⟩⟩
     ·
      rw [if_neg c5] at H;have c5b0:=decide_eq_false c5;clear c5;have c6b0:=eq_true (of_decide_eq_true (by first|(with_reducible assumption)|assumption):0≤x5_1)
      by_cases c7:x5_1≤(l0.length:Int)
      ·
       rw [if_pos c7] at H;have c7b0:=eq_true c7;have c7b1:=decide_eq_true c7;clear c7;obtain ⟨t494,A8,H⟩:=bs H;(try dsimp only at H)
       by_cases c9:t494.length<17592186044416
       ·
        rw [if_pos c9] at H;have LMc9:=Zk c9;clear c9;obtain ⟨y497,hy497⟩: ∃ y_:List Int,y_=(t494++ [a1]):=⟨_,rfl⟩
        replace H:(if y497.length+(l0.drop (x5_1:Int).toNat).length<17592186044416 then (some (y497++(l0.drop (x5_1:Int).toNat))) else (none))=some r:=by first|(rw [hy497];with_reducible exact H)|(have H2_:=(Option.bind_some _ _).symm.trans H;rw [hy497];with_reducible exact H2_)|(have H2_:=(Option.bind_some _ _).symm.trans H;with_reducible exact H2_)|with_reducible exact H|(rw [hy497];exact H)|exact H
        have Ny497:=Zk hy497;clear hy497;have c10b0:=eq_true (of_decide_eq_true (by first|(with_reducible assumption)|assumption):0≤x5_1);have c11b0:=eq_true (of_decide_eq_true (by first|(with_reducible assumption)|assumption):x5_1≤(l0.length:Int))
        by_cases c12:y497.length+(l0.drop (x5_1:Int).toNat).length<17592186044416
        ·
         rw [if_pos c12] at H;have LMc12:=Zk c12;clear c12;obtain ⟨y501,hy501⟩: ∃ y_:List Int,y_=(y497++(l0.drop (x5_1:Int).toNat)):=⟨_,rfl⟩
         replace H:(some y501)=some r:=by first|(rw [hy501];with_reducible exact H)|(have H2_:=(Option.bind_some _ _).symm.trans H;rw [hy501];with_reducible exact H2_)|(have H2_:=(Option.bind_some _ _).symm.trans H;with_reducible exact H2_)|with_reducible exact H|(rw [hy501];exact H)|exact H
         have Ny501:=Zk hy501;clear hy501;obtain rfl:=Option.some.inj H;have p492:0≤(x5_1:Int):=of_decide_eq_true (by first|(with_reducible assumption)|assumption);have q492:x5_1<(l0.length:Int):=of_decide_eq_true (by first|(with_reducible assumption)|assumption);obtain ⟨ad492,e492,hx492_0⟩:=Kd.at_int HR0.out x5_1 p492 q492;cases e492;replace hx492_0:=(HB.out.cell (World.block_lt_of_cell? w _ hx492_0)).trans hx492_0;replace p492:=eq_true p492;replace q492:=eq_true q492;obtain ⟨i013,hi013,_,hsz13,_⟩:=info_parts Qdq;obtain ⟨hcut13,hA13,hC13⟩:=Qgw (P:=Tryz.prog) (Value.int .i64) 0 24 3 .i64 Tryz.underlying24 hi013 hsz13 (some ad492) c0 l0 x5_1 (of_decide_eq_true (by first|(with_reducible assumption)|assumption)) (of_decide_eq_true (by first|(with_reducible assumption)|assumption)) HC0.out;have HR493:=Zk (Kd.C_of_reads (h1:=fun _=>rfl) (hA13 _ (Kd.reads_of_C HR0.out)));have HC493:=Zk hC13;clear hA13 hC13 hi013 hsz13;go_wp2_with (first|((with_reducible refine Qc5 (f:=273) rfl ?_);refine Qd3 (some 24) rfl rfl Tryz.func273 (by kernel_rfl) rfl #[.slice (some ad492) (l0.take (x5_1:Int).toNat).length c0] rfl (by (try simp only [List.map_toArray,List.map_cons,List.map_nil]);first|done|(rw [show (l0.take (x5_1:Int).toNat).length=x5_1.toNat from (by rw [List.length_take];have h_:(x5_1:Int)≤(l0.length:Int):=of_decide_eq_true (by first|(with_reducible assumption)|assumption);omega)] <;>rfl)|rfl|(simp only [List.length_drop,List.length_take];rfl)) ?_;(with_reducible refine (Qd9.calls _ _ (l0.take (x5_1:Int).toNat) t494 _ ?side1 ?side2 A8.out).mono ?_);(case side1=>repeat (first|exact (Kd.C_below HR493.out HB.out)|(with_reducible refine Kd.C_alloc ?_ _)|(with_reducible refine Kd.C_drewN ?_ _)|(with_reducible refine Kd.C_drew ?_)));(case side2=>exact HC493.out);rintro e w14 ⟨v495,rfl,ho0,hb⟩;refine ⟨_,rfl,?_⟩;have HO496:=Zk (Kd.R_lower ho0 (Qh (by repeat (first|(with_reducible first|exact HB.out|apply Qj|apply Qk|apply Q2)|exact HB.out))));replace HB:=Zk (Qb (by repeat (first|(with_reducible first|exact HB.out|apply Qj|apply Qk|apply Q2)|exact HB.out)) hb);(try clear hb);(try clear hb2);(try clear hk);(try clear hi);(try clear ho0))|((with_reducible refine Qb1 (b:= .append) (xs:= #[.tmp 24, .tmp 26]) rfl ?_);at_builtin;refine Kd.R_append (Kd.int .i64) (w0:=w) w.heap.size rfl (.tmp 24) (.tmp 26) 24 3 (.int .i64 0) 8 rfl Tryz.underlying24 Qdq rfl (by decide) (by omega) v495 t494 a1 [.int .i64 a1] (fun _=>True) (fun _=>False) rfl rfl ?aP (fun _ hk=>hk.elim) ?aF ?aO ?aB ?aS ?aL ?_;(case aP=>exact rfl);(case aB=>exact (by repeat (first|(with_reducible first|exact HB.out|apply Qj|apply Qk|apply Q2)|exact HB.out)));(case aF=>exact (fun _ _=>trivial));(case aO=>exact (by (with_reducible repeat (first|apply Kd.R_alloc|apply Kd.R_drewN|apply Kd.R_drew));exact HO496.out));(case aS=>exact (Qh (by repeat (first|(with_reducible first|exact HB.out|apply Qj|apply Qk|apply Q2)|exact HB.out))));(case aL=>have:=LMc9.out;omega);intro v498 w15 ho hb hg hat;rw [←Ny497.out] at ho;replace HB:=Zk (hb);have HO499:=Zk (ho);clear HO496;clear ho hb hg hat;obtain ⟨i016,hi016,_,hsz16,_⟩:=info_parts Qdq;obtain ⟨A16,hcut16,hA16,hC16⟩:=Qgv (P:=Tryz.prog) (Value.int .i64) 0 24 3 .i64 Tryz.underlying24 hi016 hsz16 (some ad492) c0 l0 x5_1 (of_decide_eq_true (by first|(with_reducible assumption)|assumption)) (of_decide_eq_true (by first|(with_reducible assumption)|assumption)) HC0.out;have HR500:=Zk (Kd.C_of_reads (h1:=fun _=>rfl) (hA16 _ (Kd.reads_of_C HR0.out)));have HC500:=Zk hC16;clear hA16 hC16 hi016 hsz16)|((with_reducible refine Qb1 (b:= .append) (xs:= #[.tmp 28, .tmp 31]) rfl ?_);at_builtin;refine Kd.R_append_rows (Kd.int .i64) (w0:=w) w.heap.size rfl (.tmp 28) (.tmp 31) 24 3 (.int .i64 0) 8 rfl Tryz.underlying24 Qdq rfl (by decide) (by omega) v498 y497 (l0.drop (x5_1:Int).toNat) _ _ _ (fun _=>True) (fun _=>False) rfl rfl ?aO ?aR (fun _ _ h=>h) (fun _ h=>h.elim) ?aF ?aB ?aS ?aL ?_;(case aR=>first|(rw [←show (l0.drop (x5_1:Int).toNat).length=(l0.length - x5_1.toNat) from List.length_drop];repeat (first|exact (Kd.C_below HR500.out HB.out)|(with_reducible refine Kd.C_alloc ?_ _)|(with_reducible refine Kd.C_drewN ?_ _)|(with_reducible refine Kd.C_drew ?_)))|(repeat (first|exact (Kd.C_below HR500.out HB.out)|(with_reducible refine Kd.C_alloc ?_ _)|(with_reducible refine Kd.C_drewN ?_ _)|(with_reducible refine Kd.C_drew ?_))));(case aB=>exact (by repeat (first|(with_reducible first|exact HB.out|apply Qj|apply Qk|apply Q2)|exact HB.out)));(case aF=>exact (fun _ _=>trivial));(case aO=>exact (by (with_reducible repeat (first|apply Kd.R_alloc|apply Kd.R_drewN|apply Kd.R_drew));exact HO499.out));(case aS=>exact (Qh (by repeat (first|(with_reducible first|exact HB.out|apply Qj|apply Qk|apply Q2)|exact HB.out))));(case aL=>have:=LMc12.out;have hlx_:=(show (l0.drop (x5_1:Int).toNat).length=(l0.length - x5_1.toNat) from List.length_drop);omega);intro v502 w17 ho hb hg hat;rw [←Ny501.out] at ho;replace HB:=Zk (hb);have HO503:=Zk (ho);clear HO499;clear ho hb hg hat))
         go_ret
         exact ⟨_,by first|rfl|(simp [Qe,Qf] <;>rfl)|(simp [*,Qe,Qf] <;>rfl),uR HO503,uB HB⟩
        ·
         rw [if_neg c12] at H;exact absurd H (by simp)
       ·
        rw [if_neg c9] at H;exact absurd H (by simp)
      ·
       rw [if_neg c7] at H;exact absurd H (by simp)
    ·
     rw [if_neg c4] at H;exact absurd H (by simp)
   ·
    rw [if_neg c3] at H;have c3b0:=decide_eq_false c3;clear c3
    by_cases c18:0≤x5_1
    ·
     rw [if_pos c18] at H;have c18b0:=eq_true c18;have c18b1:=decide_eq_true c18;clear c18
     by_cases c19:x5_1≤(l0.length:Int)
     ·
      rw [if_pos c19] at H;have c19b0:=eq_true c19;have c19b1:=decide_eq_true c19;clear c19;obtain ⟨t505,A20,H⟩:=bs H;(try dsimp only at H)
      by_cases c21:t505.length<17592186044416
      ·
       rw [if_pos c21] at H;have LMc21:=Zk c21;clear c21;obtain ⟨y508,hy508⟩: ∃ y_:List Int,y_=(t505++ [a1]):=⟨_,rfl⟩
       replace H:(if y508.length+(l0.drop (x5_1:Int).toNat).length<17592186044416 then (some (y508++(l0.drop (x5_1:Int).toNat))) else (none))=some r:=by first|(rw [hy508];with_reducible exact H)|(have H2_:=(Option.bind_some _ _).symm.trans H;rw [hy508];with_reducible exact H2_)|(have H2_:=(Option.bind_some _ _).symm.trans H;with_reducible exact H2_)|with_reducible exact H|(rw [hy508];exact H)|exact H
       have Ny508:=Zk hy508;clear hy508;have c22b0:=eq_true (of_decide_eq_true (by first|(with_reducible assumption)|assumption):0≤x5_1);have c23b0:=eq_true (of_decide_eq_true (by first|(with_reducible assumption)|assumption):x5_1≤(l0.length:Int))
       by_cases c24:y508.length+(l0.drop (x5_1:Int).toNat).length<17592186044416
       ·
        rw [if_pos c24] at H;have LMc24:=Zk c24;clear c24;obtain ⟨y512,hy512⟩: ∃ y_:List Int,y_=(y508++(l0.drop (x5_1:Int).toNat)):=⟨_,rfl⟩
        replace H:(some y512)=some r:=by first|(rw [hy512];with_reducible exact H)|(have H2_:=(Option.bind_some _ _).symm.trans H;rw [hy512];with_reducible exact H2_)|(have H2_:=(Option.bind_some _ _).symm.trans H;with_reducible exact H2_)|with_reducible exact H|(rw [hy512];exact H)|exact H
        have Ny512:=Zk hy512;clear hy512;obtain rfl:=Option.some.inj H;obtain ⟨i025,hi025,_,hsz25,_⟩:=info_parts Qdq;obtain ⟨hcut25,hA25,hC25⟩:=Qgw (P:=Tryz.prog) (Value.int .i64) 0 24 3 .i64 Tryz.underlying24 hi025 hsz25 A0 c0 l0 x5_1 (of_decide_eq_true (by first|(with_reducible assumption)|assumption)) (of_decide_eq_true (by first|(with_reducible assumption)|assumption)) HC0.out;have HR504:=Zk (Kd.C_of_reads (h1:=fun _=>rfl) (hA25 _ (Kd.reads_of_C HR0.out)));have HC504:=Zk hC25;clear hA25 hC25 hi025 hsz25;go_wp2_with (first|((with_reducible refine Qc5 (f:=273) rfl ?_);refine Qd3 (some 24) rfl rfl Tryz.func273 (by kernel_rfl) rfl #[.slice A0 (l0.take (x5_1:Int).toNat).length c0] rfl (by (try simp only [List.map_toArray,List.map_cons,List.map_nil]);first|done|(rw [show (l0.take (x5_1:Int).toNat).length=x5_1.toNat from (by rw [List.length_take];have h_:(x5_1:Int)≤(l0.length:Int):=of_decide_eq_true (by first|(with_reducible assumption)|assumption);omega)] <;>rfl)|rfl|(simp only [List.length_drop,List.length_take];rfl)) ?_;(with_reducible refine (Qd9.calls _ _ (l0.take (x5_1:Int).toNat) t505 _ ?side1 ?side2 A20.out).mono ?_);(case side1=>repeat (first|exact (Kd.C_below HR504.out HB.out)|(with_reducible refine Kd.C_alloc ?_ _)|(with_reducible refine Kd.C_drewN ?_ _)|(with_reducible refine Kd.C_drew ?_)));(case side2=>exact HC504.out);rintro e w26 ⟨v506,rfl,ho0,hb⟩;refine ⟨_,rfl,?_⟩;have HO507:=Zk (Kd.R_lower ho0 (Qh (by repeat (first|(with_reducible first|exact HB.out|apply Qj|apply Qk|apply Q2)|exact HB.out))));replace HB:=Zk (Qb (by repeat (first|(with_reducible first|exact HB.out|apply Qj|apply Qk|apply Q2)|exact HB.out)) hb);(try clear hb);(try clear hb2);(try clear hk);(try clear hi);(try clear ho0))|((with_reducible refine Qb1 (b:= .append) (xs:= #[.tmp 24, .tmp 26]) rfl ?_);at_builtin;refine Kd.R_append (Kd.int .i64) (w0:=w) w.heap.size rfl (.tmp 24) (.tmp 26) 24 3 (.int .i64 0) 8 rfl Tryz.underlying24 Qdq rfl (by decide) (by omega) v506 t505 a1 [.int .i64 a1] (fun _=>True) (fun _=>False) rfl rfl ?aP (fun _ hk=>hk.elim) ?aF ?aO ?aB ?aS ?aL ?_;(case aP=>exact rfl);(case aB=>exact (by repeat (first|(with_reducible first|exact HB.out|apply Qj|apply Qk|apply Q2)|exact HB.out)));(case aF=>exact (fun _ _=>trivial));(case aO=>exact (by (with_reducible repeat (first|apply Kd.R_alloc|apply Kd.R_drewN|apply Kd.R_drew));exact HO507.out));(case aS=>exact (Qh (by repeat (first|(with_reducible first|exact HB.out|apply Qj|apply Qk|apply Q2)|exact HB.out))));(case aL=>have:=LMc21.out;omega);intro v509 w27 ho hb hg hat;rw [←Ny508.out] at ho;replace HB:=Zk (hb);have HO510:=Zk (ho);clear HO507;clear ho hb hg hat;obtain ⟨i028,hi028,_,hsz28,_⟩:=info_parts Qdq;obtain ⟨A28,hcut28,hA28,hC28⟩:=Qgv (P:=Tryz.prog) (Value.int .i64) 0 24 3 .i64 Tryz.underlying24 hi028 hsz28 A0 c0 l0 x5_1 (of_decide_eq_true (by first|(with_reducible assumption)|assumption)) (of_decide_eq_true (by first|(with_reducible assumption)|assumption)) HC0.out;have HR511:=Zk (Kd.C_of_reads (h1:=fun _=>rfl) (hA28 _ (Kd.reads_of_C HR0.out)));have HC511:=Zk hC28;clear hA28 hC28 hi028 hsz28)|((with_reducible refine Qb1 (b:= .append) (xs:= #[.tmp 28, .tmp 31]) rfl ?_);at_builtin;refine Kd.R_append_rows (Kd.int .i64) (w0:=w) w.heap.size rfl (.tmp 28) (.tmp 31) 24 3 (.int .i64 0) 8 rfl Tryz.underlying24 Qdq rfl (by decide) (by omega) v509 y508 (l0.drop (x5_1:Int).toNat) _ _ _ (fun _=>True) (fun _=>False) rfl rfl ?aO ?aR (fun _ _ h=>h) (fun _ h=>h.elim) ?aF ?aB ?aS ?aL ?_;(case aR=>first|(rw [←show (l0.drop (x5_1:Int).toNat).length=(l0.length - x5_1.toNat) from List.length_drop];repeat (first|exact (Kd.C_below HR511.out HB.out)|(with_reducible refine Kd.C_alloc ?_ _)|(with_reducible refine Kd.C_drewN ?_ _)|(with_reducible refine Kd.C_drew ?_)))|(repeat (first|exact (Kd.C_below HR511.out HB.out)|(with_reducible refine Kd.C_alloc ?_ _)|(with_reducible refine Kd.C_drewN ?_ _)|(with_reducible refine Kd.C_drew ?_))));(case aB=>exact (by repeat (first|(with_reducible first|exact HB.out|apply Qj|apply Qk|apply Q2)|exact HB.out)));(case aF=>exact (fun _ _=>trivial));(case aO=>exact (by (with_reducible repeat (first|apply Kd.R_alloc|apply Kd.R_drewN|apply Kd.R_drew));exact HO510.out));(case aS=>exact (Qh (by repeat (first|(with_reducible first|exact HB.out|apply Qj|apply Qk|apply Q2)|exact HB.out))));(case aL=>have:=LMc24.out;have hlx_:=(show (l0.drop (x5_1:Int).toNat).length=(l0.length - x5_1.toNat) from List.length_drop);omega);intro v513 w29 ho hb hg hat;rw [←Ny512.out] at ho;replace HB:=Zk (hb);have HO514:=Zk (ho);clear HO510;clear ho hb hg hat))
        go_ret
        exact ⟨_,by first|rfl|(simp [Qe,Qf] <;>rfl)|(simp [*,Qe,Qf] <;>rfl),uR HO514,uB HB⟩
       ·
        rw [if_neg c24] at H;exact absurd H (by simp)
      ·
       rw [if_neg c21] at H;exact absurd H (by simp)
     ·
      rw [if_neg c19] at H;exact absurd H (by simp)
    ·
     rw [if_neg c18] at H;exact absurd H (by simp)
end Go.Proofs.YtkgngggppcmpfaaGreat.L
end
section
namespace Go.Proofs.YtkgngggppcmpfaaGreat.L
open Go.RowKit Go.Proofs.YtkgngggppcmpfaaGreatW.PrintWords Go.Proofs.YtkgngggppcmpfaaGreatW.PrintLast Go.Proofs.YtkgngggppcmpfaaGreatW.PrintMore
attribute [local go_sem] Qy Q0 Qbb Qbc Qp Qq Qz Q1
set_option linter.unusedVariables false
set_option linter.unusedSimpArgs false
def Qc0.f (a0:Int) (a1:Int):Option (Bool):=if 0≤a1 then (some ((Int.tmod (shr .i64 a0 a1) 2)==1)) else (none)
set_option maxHeartbeats 8000000 in
set_option maxRecDepth 100000 in
theorem Qc0.calls (a0:Int) (a1:Int) (r:Bool) (w:World) (h:Qc0.f a0 a1=some r):
 Calls Tryz.prog 253 #[.int .i64 a0, .int .i64 a1] w fun e w'=>e= .returned (.bool r)∧Drawn0 w w':=by
 have H:(if 0≤a1 then (some ((Int.tmod (shr .i64 a0 a1) 2)==1)) else (none))=some r:=h;clear h
 by_cases c3:0≤a1
 ·
  rw [if_pos c3] at H;have c3b0:=eq_true c3;have c3b1:=decide_eq_true c3;clear c3;obtain ⟨ji4,hji4⟩: ∃ j_:Int,(shr .i64 a0 a1)=j_:=⟨_,rfl⟩
  replace H:(some ((Int.tmod (ji4) 2)==1))=some r:=by first|(rw [hji4] at H;exact H)|(simp only [hji4] at H ⊢;exact H)
  have hji4_:(a0 / 2 ^ min a1.toNat 64)=ji4:=hji4;have hji4z:a1≤64→(a0 / 2 ^ a1.toNat)=ji4:=Qg8 hji4;obtain rfl:=Option.some.inj H;go_enter Tryz.func253,Tryz.ntmps253;go_wp2
  go_ret
  exact ⟨by first|rfl|(simp;done)|(simp only [←hji4] <;>(first|rfl|simp))|(simp [*];done),by repeat (first|exact Drawn0.refl _|apply Drawn0.step)⟩
 ·
  rw [if_neg c3] at H;exact absurd H (by simp)
end Go.Proofs.YtkgngggppcmpfaaGreat.L
end
section
namespace Go.Proofs.YtkgngggppcmpfaaGreat.L
open Go.RowKit Go.Proofs.YtkgngggppcmpfaaGreatW.PrintWords Go.Proofs.YtkgngggppcmpfaaGreatW.PrintLast Go.Proofs.YtkgngggppcmpfaaGreatW.PrintMore Go.Proofs.YtkgngggppcmpfaaGreat.X
attribute [local go_sem] Qy Q0 Qbb Qbc Qp Qq Qz Q1
set_option linter.unusedVariables false
set_option linter.unusedSimpArgs false
mutual
def Qw.l0:Nat→List Int→Int→List Int→Option (List Int)
 |0,_,_,_=>none
 |k+1,x4,x5,x516000=>if x5 ≥ 0 then (Qw.l1 k x4 x5 x516000 (x516000.length:Int) 0 x516000) else (some x4)
def Qw.l1:Nat→List Int→Int→List Int→Int→Int→List Int→Option (List Int)
 |0,_,_,_,_,_,_=>none
 |k+1,x4,x5,x27,x28,x29,x516000=>if x29<x28 then (if 0≤x29 then (if x29<(x27.length:Int) then ((Qc0.f x5 x29).bind fun t521=>(if t521=true then (Qw.l1 k x4 x5 x27 x28 (wrap64 (x29+1)) x516000) else (if (Go.bits .andNot .i64 (rd x27 x29) x5)=0 then (if 0≤x5 then (if x5<(x4.length:Int) then (if 0≤(Go.bits .or .i64 x5 (shl .i64 1 x29)) then (if (Go.bits .or .i64 x5 (shl .i64 1 x29))<(x4.length:Int) then (Qw.l1 k (x4.set (x5:Int).toNat (wrap64 ((rd x4 x5)+(rd x4 (Go.bits .or .i64 x5 (shl .i64 1 x29)))))) x5 x27 x28 (wrap64 (x29+1)) x516000) else (none)) else (none)) else (none)) else (none)) else (Qw.l1 k x4 x5 x27 x28 (wrap64 (x29+1)) x516000)))) else (none)) else (none)) else (Qw.l0 k x4 (wrap64 (x5 - 1)) x516000)
end
def Qw.f (k:Nat) (l0_0:List Int):Option (List Int):=if 0≤(shl .i64 1 (l0_0.length:Int)) then (if (shl .i64 1 (l0_0.length:Int):Int).toNat≤35184372088832 then ((some (List.replicate (shl .i64 1 (l0_0.length:Int):Int).toNat 0:List Int)).bind fun y516=>(if 0≤(wrap64 ((shl .i64 1 (l0_0.length:Int)) - 1)) then (if (wrap64 ((shl .i64 1 (l0_0.length:Int)) - 1))<(y516.length:Int) then (Qw.l0 k (y516.set ((wrap64 ((shl .i64 1 (l0_0.length:Int)) - 1)):Int).toNat 1) (wrap64 ((shl .i64 1 (l0_0.length:Int)) - 2)) l0_0) else (none)) else (none))) else (none)) else (none)
theorem Qw.mono_l: ∀ k,(∀ y0 y1 y2,LeO (Qw.l0 k y0 y1 y2) (Qw.l0 (k+1) y0 y1 y2))∧(∀ y0 y1 y2 y3 y4 y5,LeO (Qw.l1 k y0 y1 y2 y3 y4 y5) (Qw.l1 (k+1) y0 y1 y2 y3 y4 y5))
 |0=>⟨fun _ _ _ r h=>by simp [Qw.l0] at h,fun _ _ _ _ _ _ r h=>by simp [Qw.l1] at h⟩
 |k+1=>by
  obtain ⟨ih0,ih1⟩:=Qw.mono_l k;refine ⟨?_,?_⟩
  all_goals
   intros
   first|unfold Qw.l0|unfold Qw.l1
   repeat' (with_reducible first|apply ih0|apply ih1|exact LeO.refl _|exact LeO.none _|refine LeO.ite ?_ ?_|refine LeO.bind ?_ (fun _=> ?_))
theorem Qw.mono: ∀ a0 k,LeO (Qw.f k a0) (Qw.f (k+1) a0):=by
 intro a0 k;obtain ⟨ih0,ih1⟩:=Qw.mono_l k;unfold Qw.f
 repeat' (with_reducible first|apply ih0|apply ih1|exact LeO.refl _|exact LeO.none _|refine LeO.ite ?_ ?_|refine LeO.bind ?_ (fun _=> ?_))
def Qw.T11:Bool × List (List Nat × List Nat):=(true,[([],[]),([],[]),([0,1],[0,1]),([2],[2]),([],[]),([],[]),([],[]),([6],[6]),([5,7],[5,7]),([4,8],[4,8]),([9],[9]),([3,10],[3,10]),([0,1,0,1,2,3,4,5,6,7,8,9,10,11],[0,1]),([12,11,0,1,2,3,4,5,6,7,8,9,10,11],[11,12])])
def Qw.B11:List Nat:= [0,0,3,7,0,0,0,64,224,496,1008,2047,4095,8191]
theorem Qw.tab11:rtab .any (Qfz Tryz.f317 11)=Qw.T11:=by kernel_rfl
theorem Qw.bits11:Qen Qw.T11.2 Qw.B11=true:=by kernel_rfl
set_option maxHeartbeats 8000000 in
set_option maxRecDepth 100000 in
theorem Qw.calls (k:Nat) (A0_0:Option Addr) (c0_0:Nat) (l0_0:List Int) (r:List Int) (w:World) (hr0_0:Kd.C (Kd.int .i64) w A0_0 l0_0.length l0_0) (hc0_0:l0_0.length≤c0_0) (h:Qw.f k l0_0=some r):
 Calls Tryz.prog 317 #[.agg #[.slice A0_0 l0_0.length c0_0]] w fun e w'=> ∃ v0_:Value,e= .returned (v0_)∧Kd.R (Kd.int .i64) 3 w' w.heap.size (fun _=>True) v0_ r∧Below w.heap.size w w':=by
 have hu26:=Tryz.underlying26;have HR0_0:=Zk hr0_0;have HC0_0:=Zk hc0_0;clear hr0_0 hc0_0;have HB:=Zk (Below.refl w.heap.size w);have H:(if 0≤(shl .i64 1 (l0_0.length:Int)) then (if (shl .i64 1 (l0_0.length:Int):Int).toNat≤35184372088832 then ((some (List.replicate (shl .i64 1 (l0_0.length:Int):Int).toNat 0:List Int)).bind fun y516=>(if 0≤(wrap64 ((shl .i64 1 (l0_0.length:Int)) - 1)) then (if (wrap64 ((shl .i64 1 (l0_0.length:Int)) - 1))<(y516.length:Int) then (Qw.l0 k (y516.set ((wrap64 ((shl .i64 1 (l0_0.length:Int)) - 1)):Int).toNat 1) (wrap64 ((shl .i64 1 (l0_0.length:Int)) - 2)) l0_0) else (none)) else (none))) else (none)) else (none))=some r:=h;clear h;obtain ⟨ji2,hji2⟩: ∃ j_:Int,(shl .i64 1 (l0_0.length:Int))=j_:=⟨_,rfl⟩
 replace H:(if 0≤(ji2) then (if (ji2:Int).toNat≤35184372088832 then ((some (List.replicate (ji2:Int).toNat 0:List Int)).bind fun y516=>(if 0≤(wrap64 ((ji2) - 1)) then (if (wrap64 ((ji2) - 1))<(y516.length:Int) then (Qw.l0 k (y516.set ((wrap64 ((ji2) - 1)):Int).toNat 1) (wrap64 ((ji2) - 2)) l0_0) else (none)) else (none))) else (none)) else (none))=some r:=by first|(rw [hji2] at H;exact H)|(simp only [hji2] at H ⊢;exact H)
 have hji2_:(IntKind.i64.wrap (1*2 ^ min (l0_0.length:Int).toNat 64))=ji2:=hji2;have hji2z:(l0_0.length:Int)≤64→(IntKind.i64.wrap (1*2 ^ (l0_0.length:Int).toNat))=ji2:=Qea hji2;have hji2p:(IntKind.i64.wrap (1*2 ^ min l0_0.length 64))=ji2:=hji2_;have hji2q:(l0_0.length:Int)≤64→(IntKind.i64.wrap (1*2 ^ l0_0.length))=ji2:=hji2z;have hji2r:(IntKind.i64.wrap (2 ^ min l0_0.length 64))=ji2:=by have h_:=hji2p;rw [Int.one_mul] at h_;exact h_
 have hji2s:(l0_0.length:Int)≤64→(IntKind.i64.wrap (2 ^ l0_0.length))=ji2:=fun hle_=>by have h_:=hji2q hle_;rw [Int.one_mul] at h_;exact h_
 have hji2u:(IntKind.i64.wrap (2 ^ min (l0_0.length:Int).toNat 64))=ji2:=by have h_:=hji2_;rw [Int.one_mul] at h_;exact h_
 have hji2v:(l0_0.length:Int)≤64→(IntKind.i64.wrap (2 ^ (l0_0.length:Int).toNat))=ji2:=fun hle_=>by have h_:=hji2z hle_;rw [Int.one_mul] at h_;exact h_
 have hji2y:(wrap64 (1*2 ^ min (l0_0.length:Int).toNat 64))=ji2:=(Qcm _).symm.trans hji2_;have hji2x:(l0_0.length:Int)≤64→(wrap64 (1*2 ^ (l0_0.length:Int).toNat))=ji2:=fun h_=>(Qcm _).symm.trans (hji2z h_)
 by_cases c3:0≤(ji2)
 ·
  rw [if_pos c3] at H;have c3b0:=eq_true c3;have c3b1:=decide_eq_true c3;clear c3
  by_cases c4:(ji2:Int).toNat≤35184372088832
  ·
   rw [if_pos c4] at H;have c4b0:=eq_true c4;have c4b1:=decide_eq_true c4;clear c4;obtain ⟨y516,hy516⟩: ∃ y_:List Int,y_=(List.replicate (ji2:Int).toNat 0):=⟨_,rfl⟩
   replace H:(if 0≤(wrap64 ((ji2) - 1)) then (if (wrap64 ((ji2) - 1))<(y516.length:Int) then (Qw.l0 k (y516.set ((wrap64 ((ji2) - 1)):Int).toNat 1) (wrap64 ((ji2) - 2)) l0_0) else (none)) else (none))=some r:=by first|(rw [hy516];with_reducible exact H)|(have H2_:=(Option.bind_some _ _).symm.trans H;rw [hy516];with_reducible exact H2_)|(have H2_:=(Option.bind_some _ _).symm.trans H;with_reducible exact H2_)|with_reducible exact H|(rw [hy516];exact H)|exact H
   have Ny516:=Zk hy516;clear hy516;obtain ⟨ji5,hji5⟩: ∃ j_:Int,(wrap64 ((ji2) - 1))=j_:=⟨_,rfl⟩
   replace H:(if 0≤(ji5) then (if (ji5)<(y516.length:Int) then (Qw.l0 k (y516.set ((ji5):Int).toNat 1) (wrap64 ((ji2) - 2)) l0_0) else (none)) else (none))=some r:=by first|(rw [hji5] at H;exact H)|(simp only [hji5] at H ⊢;exact H)
   have hji5w:(IntKind.i64.wrap ((ji2) - 1))=ji5:=(Qcm _).trans hji5
   by_cases c6:0≤(ji5)
   ·
    rw [if_pos c6] at H;have c6b0:=decide_eq_true c6;clear c6
    by_cases c7:(ji5)<(y516.length:Int)
    ·
     rw [if_pos c7] at H;have c7b0:=decide_eq_true c7;clear c7;obtain ⟨y519,hy519⟩: ∃ y_:List Int,y_=(y516.set ((ji5):Int).toNat 1):=⟨_,rfl⟩
     replace H:(Qw.l0 k y519 (wrap64 ((ji2) - 2)) l0_0)=some r:=by first|(rw [hy519];with_reducible exact H)|(have H2_:=(Option.bind_some _ _).symm.trans H;rw [hy519];with_reducible exact H2_)|(have H2_:=(Option.bind_some _ _).symm.trans H;with_reducible exact H2_)|with_reducible exact H|(rw [hy519];exact H)|exact H
     have Ny519:=Zk hy519;clear hy519;have H':=Zk H;clear H;go_enter Tryz.func317,Tryz.ntmps317;go_wp2_with (first|(refine bE (N:=1) (cs:= #[.slice A0_0 l0_0.length c0_0]) (t:=26) ?_;intro gb515 hg w9 hbox hb;have BK515:=Zk (hbox);have GW515:=Zk ((by rw [hg];exact (Qh (uB HB)):w.heap.size≤gb515));have GE515:=GW515;replace HB:=Zk (Qb (uB HB) hb);clear hb hbox hg;have hcz10_0:=bC BK515;have hfz10_0:=Q6 BK515.out 0)|((with_reducible refine Qu (N:=13) rfl ?_);refine Kd.R_make (Kd.int .i64) _ 3 rfl (N:=13) rfl 24 _ _ rfl ji2 rfl rfl Tryz.underlying24 (.int .i64 0) 8 Qdq rfl (by decide) (by omega) 0 (ok:=fun _=>True) (okp:=fun _=>True) rfl (fun _ hk=>hk) trivial (of_decide_eq_true (by first|(with_reducible assumption)|assumption)) (Nat.le_trans (Nat.mul_le_mul_right _ (of_decide_eq_true (by first|(with_reducible assumption)|assumption):ji2.toNat≤35184372088832)) (by omega)) (Below.refl _ _) (Nat.le_refl _) ?_;intro v517 w11 ho12 hb hg_ hnew_;clear hg_ hnew_;(first|rw [←Ny516.out] at ho12|(simp only [Int.reduceToNat] at ho12;rw [←Ny516.out] at ho12));have HO518:=Zk (Kd.R_lower ho12 (Qh (vB HB)));replace BK515:=Zk (Qbg (uK BK515) hb);replace HB:=Zk (Qb (vB HB) hb);clear hb ho12;have p8:0≤((ji5):Int):=of_decide_eq_true (by first|(with_reducible assumption)|assumption);have q8:((ji5):Int)<((y516.length:Int):Int):=of_decide_eq_true (by first|(with_reducible assumption)|assumption);obtain ⟨go8,co8,eo8,gb8,gl8,cl8,HG8⟩:=Kd.R_form HO518.out (by omega);(first|cases eo8|(injection eo8 with ea_ en_ ec_;(first|subst ea_|(injection ea_ with ea_;subst ea_));subst ec_;clear en_));have GB8:=Zk gb8;have GG8:=Zk HG8;clear gb8 gl8 HG8;obtain ⟨hx8_0,hf8_0⟩:=Kd.R_celln 0 HO518.out ((ji5):Int) p8 q8;replace p8:=eq_true p8;replace q8:=eq_true q8;obtain ⟨hy13_,hz13_⟩:=Kd.R_celln 0 HO518.out ((ji5):Int) (of_decide_eq_true (by first|(with_reducible assumption)|assumption)) (of_decide_eq_true (by first|(with_reducible assumption)|assumption));have HP13:=Kd.R_putg HO518.out ((ji5):Int) 1)|((with_reducible refine Qer (t:=3) (p:=18) rfl ?_);refine Qel (t:=3) (p:=18) (v:= ?vo_w14) (w1:=(w11.setCell ⟨go8,((ji5):Int).toNat,none⟩ (.int .i64 1))) ?hg ?ho ?hn ?hr ?_;(case ho=>rfl);(case hg=>rfl);(case hn=>rfl);(case hr=>first|(go_simp;done)|(go_simp;rfl));intro w14 hw;have hg:w11.grownBy w14 (some go8):=(by rw [hw];exact HP13.2);have hp_:Kd.R (Kd.int .i64) 3 w14 w.heap.size (fun _=>True) (.slice (some ⟨go8,0,none⟩) y516.length co8) y519:=(by rw [hw,Ny519.out];exact HP13.1);clear HP13;replace BK515:=Zk (Qc8 (uK BK515) hg (Kd.R_ne HO518.out BK515.out (by decide)));replace HO518:=Zk (hp_);replace HB:=Zk ((by rw [hw];exact Qbt (HB.out) GB8.out:Below w.heap.size w w14));clear hg hw hp_))
     go_loopg [5] k (fun kq v5 w'=> ∃ (x4_1:List Int) (x5_1:Int),v5= .int .i64 x5_1∧Z0 (Qw.l0 kq x4_1 x5_1 l0_0=some r)∧Z0 (kq≤k)∧Z0 (Kd.R (Kd.int .i64) 3 w' w.heap.size (fun _=>True) (.slice (some ⟨go8,0,none⟩) y516.length co8) x4_1)∧Z0 (w'.heap[gb515]? =some (.cells #[(.slice A0_0 l0_0.length c0_0)] 26 (0,0)))∧Z0 (Below w.heap.size w w'))
     case atStart=>exact ⟨(y519),(wrap64 ((ji2) - 2)),(by first|rfl|(simp;done)|(simp only [←hji2] <;>(first|rfl|simp))|(simp [*];done)),H',⟨Nat.le_refl _⟩,⟨uR HO518⟩,⟨uK BK515⟩,⟨(vB HB)⟩⟩
     case round=>
      clear H'
      try clear c3b0 c3b1 c4b0 c4b1 c6b0 c7b0 p8 q8 hcz10_0 hfz10_0 hx8_0 p8 q8
      obtain ⟨x4_1,x5_1,rfl,HA,HK1,HO_4,BK515,HB⟩:=hrel;have hl4_1:=(Kd.R_reads' HO_4.out).1;rw [hl4_1] at HO_4
      (try simp only [hl4_1])
      (try simp only [hl4_1] at BK515)
      cases gk with
      |zero=>exact absurd HA.out (by simp [Qw.l0])
      |succ k1=>
       have H:=HA.out;clear HA;simp only [Qw.l0] at H
       by_cases c15:x5_1 ≥ 0
       ·
        rw [if_pos c15] at H;have c15b0:=decide_eq_true c15;clear c15;have H':=Zk H;clear H;have hcz16_0:=bC BK515;have hfz16_0:=Q6 BK515.out 0;go_wp2
        go_loopg [29] k1 (fun kq v29 w'=> ∃ (x4_2:List Int) (x29_2:Int),v29= .int .i64 x29_2∧Z0 (Qw.l1 kq x4_2 x5_1 l0_0 (l0_0.length:Int) x29_2 l0_0=some r)∧Z0 (kq≤k1)∧Z0 (Kd.R (Kd.int .i64) 3 w' w.heap.size (fun _=>True) (.slice (some ⟨go8,0,none⟩) x4_1.length co8) x4_2)∧Z0 (w'.heap[gb515]? =some (.cells #[(.slice A0_0 l0_0.length c0_0)] 26 (0,0)))∧Z0 (Below w.heap.size w w'))
        case atStart=>exact ⟨(x4_1),(0),(by first|rfl|(simp;done)|(simp [*];done)),H',⟨Nat.le_refl _⟩,⟨by (try simp only [hl4_1]);(with_reducible repeat (first|apply Kd.R_alloc|apply Kd.R_drewN|apply Kd.R_drew));exact HO_4.out⟩,⟨by (try simp only [hl4_1]);(with_reducible repeat (first|refine Qcg ?_ _|refine Qc7 ?_|refine Qci ?_ _));exact BK515.out⟩,⟨(vB HB)⟩⟩
        case round=>
         clear H'
         try clear c15b0 hcz16_0 hfz16_0
         obtain ⟨x4_2,x29_2,rfl,HA,HK2,HO_4,BK515,HB⟩:=hrel;have hl4_2:=(Kd.R_reads' HO_4.out).1;rw [hl4_2] at HO_4
         (try simp only [hl4_2])
         (try simp only [hl4_2] at BK515)
         cases gk with
         |zero=>exact absurd HA.out (by simp [Qw.l1])
         |succ k2=>
          have H:=HA.out;clear HA;simp only [Qw.l1] at H
          by_cases c17:x29_2<(l0_0.length:Int)
          ·
           rw [if_pos c17] at H;have c17b0:=decide_eq_true c17;clear c17
           by_cases c18:0≤x29_2
           ·
            rw [if_pos c18] at H;have c18b0:=decide_eq_true c18;clear c18
            by_cases c19:x29_2<(l0_0.length:Int)
            ·
             rw [if_pos c19] at H;have c19b0:=decide_eq_true c19;clear c19;obtain ⟨t521,A20,H⟩:=bs H;(try dsimp only at H)
             by_cases c21:t521=true
             ·
              subst c21;rw [if_pos rfl] at H;have H':=Zk H;clear H;have p520:0≤(x29_2:Int):=of_decide_eq_true (by first|(with_reducible assumption)|assumption);have q520:x29_2<(l0_0.length:Int):=of_decide_eq_true (by first|(with_reducible assumption)|assumption);obtain ⟨ad520,e520,hx520_0⟩:=Kd.at_int HR0_0.out x29_2 p520 q520;cases e520;replace hx520_0:=(HB.out.cell (World.block_lt_of_cell? w _ hx520_0)).trans hx520_0;replace p520:=eq_true p520;replace q520:=eq_true q520;go_wp2_with (first|(refine gA (some 36) Tryz.func253 #[.int .i64 x5_1, .int .i64 x29_2] ?_;(with_reducible refine (Qc0.calls x5_1 x29_2 true _ A20.out).mono ?_);rintro e w' ⟨rfl,⟨nd,rfl⟩⟩;refine ⟨_,rfl,?_⟩))
              (try simp only [←hl4_2])
              go_roundg k2
              case measure=>have:=HK1.out;have:=HK2.out;omega
              case rel=>exact ⟨(x4_2),(wrap64 (x29_2+1)),(by first|rfl|(simp;done)|(simp [*];done)),H',⟨by have:=HK1.out;have:=HK2.out;omega⟩,⟨by (try simp only [hl4_1]);(try simp only [hl4_2]);(with_reducible repeat (first|apply Kd.R_alloc|apply Kd.R_drewN|apply Kd.R_drew));exact HO_4.out⟩,⟨by (try simp only [hl4_1]);(try simp only [hl4_2]);(with_reducible repeat (first|refine Qcg ?_ _|refine Qc7 ?_|refine Qci ?_ _));exact BK515.out⟩,⟨(vB HB)⟩⟩
             ·
              replace c21:=Bool.eq_false_iff.mpr c21;subst c21;rw [if_neg (show ¬ (false=true) by decide)] at H
              by_cases c22:(Go.bits .andNot .i64 (rd l0_0 x29_2) x5_1)=0
              ·
               rw [if_pos c22] at H;have c22b0:((Go.bits .andNot .i64 (rd l0_0 x29_2) x5_1)==0)=true:=beq_iff_eq.mpr c22;have c22b1:((Go.bits .andNot .i64 (rd l0_0 x29_2) x5_1) !=0)=false:=bne_eq_false_iff_eq.mpr c22;clear c22
               by_cases c23:0≤x5_1
               ·
                rw [if_pos c23] at H;have c23b0:=decide_eq_true c23;clear c23
                by_cases c24:x5_1<(x4_2.length:Int)
                ·
                 rw [if_pos c24] at H;have c24b0:=decide_eq_true c24;clear c24;have c25b0:=eq_true (of_decide_eq_true (by first|(with_reducible assumption)|assumption):0≤x29_2);obtain ⟨ji26,hji26⟩: ∃ j_:Int,(shl .i64 1 x29_2)=j_:=⟨_,rfl⟩
                 replace H:(if 0≤(Go.bits .or .i64 x5_1 (ji26)) then (if (Go.bits .or .i64 x5_1 (ji26))<(x4_2.length:Int) then (Qw.l1 k2 (x4_2.set (x5_1:Int).toNat (wrap64 ((rd x4_2 x5_1)+(rd x4_2 (Go.bits .or .i64 x5_1 (ji26)))))) x5_1 l0_0 (l0_0.length:Int) (wrap64 (x29_2+1)) l0_0) else (none)) else (none))=some r:=by first|(rw [hji26] at H;exact H)|(simp only [hji26] at H ⊢;exact H)
                 (try rw [hji26] at A20)
                 have hji26_:(IntKind.i64.wrap (1*2 ^ min x29_2.toNat 64))=ji26:=hji26;have hji26z:x29_2≤64→(IntKind.i64.wrap (1*2 ^ x29_2.toNat))=ji26:=Qea hji26;have hji26u:(IntKind.i64.wrap (2 ^ min x29_2.toNat 64))=ji26:=by have h_:=hji26_;rw [Int.one_mul] at h_;exact h_
                 have hji26v:x29_2≤64→(IntKind.i64.wrap (2 ^ x29_2.toNat))=ji26:=fun hle_=>by have h_:=hji26z hle_;rw [Int.one_mul] at h_;exact h_
                 have hji26y:(wrap64 (1*2 ^ min x29_2.toNat 64))=ji26:=(Qcm _).symm.trans hji26_;have hji26x:x29_2≤64→(wrap64 (1*2 ^ x29_2.toNat))=ji26:=fun h_=>(Qcm _).symm.trans (hji26z h_)
                 by_cases c27:0≤(Go.bits .or .i64 x5_1 (ji26))
                 ·
                  rw [if_pos c27] at H;have c27b0:=decide_eq_true c27;clear c27
                  by_cases c28:(Go.bits .or .i64 x5_1 (ji26))<(x4_2.length:Int)
                  ·
                   rw [if_pos c28] at H;have c28b0:=decide_eq_true c28;clear c28;obtain ⟨y524,hy524⟩: ∃ y_:List Int,y_=(x4_2.set (x5_1:Int).toNat (wrap64 ((rd x4_2 x5_1)+(rd x4_2 (Go.bits .or .i64 x5_1 (ji26)))))):=⟨_,rfl⟩
                   replace H:(Qw.l1 k2 y524 x5_1 l0_0 (l0_0.length:Int) (wrap64 (x29_2+1)) l0_0)=some r:=by first|(rw [hy524];with_reducible exact H)|(have H2_:=(Option.bind_some _ _).symm.trans H;rw [hy524];with_reducible exact H2_)|(have H2_:=(Option.bind_some _ _).symm.trans H;with_reducible exact H2_)|with_reducible exact H|(rw [hy524];exact H)|exact H
                   have Ny524:=Zk hy524;clear hy524;have H':=Zk H;clear H;have p520:0≤(x29_2:Int):=of_decide_eq_true (by first|(with_reducible assumption)|assumption);have q520:x29_2<(l0_0.length:Int):=of_decide_eq_true (by first|(with_reducible assumption)|assumption);obtain ⟨ad520,e520,hx520_0⟩:=Kd.at_int HR0_0.out x29_2 p520 q520;cases e520;replace hx520_0:=(HB.out.cell (World.block_lt_of_cell? w _ hx520_0)).trans hx520_0;replace p520:=eq_true p520;replace q520:=eq_true q520
                   try go_wp2_with (first|(refine gA (some 36) Tryz.func253 #[.int .i64 x5_1, .int .i64 x29_2] ?_;(with_reducible refine (Qc0.calls x5_1 x29_2 false _ A20.out).mono ?_);rintro e w' ⟨rfl,⟨nd,rfl⟩⟩;refine ⟨_,rfl,?_⟩;(try (rw [Qj4 wr];generalize hq_:World.drewN wr _=wr;have n0_:Z0 (Kd.R (Kd.int .i64) 3 wr w.heap.size (fun _=>True) (.slice (some ⟨go8,0,none⟩) x4_2.length co8) x4_2):=⟨by rw [←hq_];exact (uR HO_4)⟩;have n1_:Z0 (wr.heap[gb515]? =some (.cells #[.slice (some ad520) l0_0.length c0_0] 26 (0,0))):=⟨by rw [←hq_];exact (uK BK515)⟩;have n2_:Z0 (Below w.heap.size w wr):=⟨by rw [←hq_];exact (vB HB)⟩;clear HO_4 BK515 HB hq_;have HO_4:=n0_;have BK515:=n1_;have HB:=n2_;clear n0_ n1_ n2_))))
                   replace HO_4:=Zk (Kd.R_drew HO_4.out);replace BK515:=Zk (Qc7 BK515.out);replace HB:=Zk (Q2 HB.out);have p522:0≤(x5_1:Int):=of_decide_eq_true (by first|(with_reducible assumption)|assumption);have q522:x5_1<(x4_2.length:Int):=of_decide_eq_true (by first|(with_reducible assumption)|assumption);obtain ⟨ad522,e522,hx522_0⟩:=Kd.at_int (Kd.R_reads' HO_4.out).2.2 x5_1 p522 q522;obtain rfl:(⟨go8,0,none⟩:Addr)=ad522:=(by injection e522)
                   (first|simp only [Qd2] at hx522_0|simp only [Qe5] at hx522_0|simp only [Addr.add,Nat.zero_add] at hx522_0|skip)
                   replace p522:=eq_true p522;replace q522:=eq_true q522;have p523:0≤((Go.bits .or .i64 x5_1 (ji26)):Int):=of_decide_eq_true (by first|(with_reducible assumption)|assumption);have q523:(Go.bits .or .i64 x5_1 (ji26))<(x4_2.length:Int):=of_decide_eq_true (by first|(with_reducible assumption)|assumption);obtain ⟨ad523,e523,hx523_0⟩:=Kd.at_int (Kd.R_reads' HO_4.out).2.2 (Go.bits .or .i64 x5_1 (ji26)) p523 q523;obtain rfl:(⟨go8,0,none⟩:Addr)=ad523:=(by injection e523)
                   (first|simp only [Qd2] at hx523_0|simp only [Qe5] at hx523_0|simp only [Addr.add,Nat.zero_add] at hx523_0|skip)
                   replace p523:=eq_true p523;replace q523:=eq_true q523;have p29:0≤(x5_1:Int):=of_decide_eq_true (by first|(with_reducible assumption)|assumption);have q29:(x5_1:Int)<((x4_2.length:Int):Int):=of_decide_eq_true (by first|(with_reducible assumption)|assumption);obtain ⟨hx29_0,hf29_0⟩:=Kd.R_celln 0 HO_4.out (x5_1:Int) p29 q29;replace p29:=eq_true p29;replace q29:=eq_true q29;have HP31:=Kd.R_putn HO_4.out (x5_1:Int) (wrap64 ((rd x4_2 x5_1)+(rd x4_2 (Go.bits .or .i64 x5_1 (ji26)))));rw [←Ny524.out] at HP31;have HQ31:=Zk HP31;clear HP31;refine sU (n:=14) (S:=fun w'=>w'.cell? ⟨go8,(x5_1).toNat,none⟩=some (.int .i64 (rd x4_2 x5_1))∧w'.cell? ⟨go8,((Go.bits .or .i64 x5_1 (ji26))).toNat,none⟩=some (.int .i64 (rd x4_2 (Go.bits .or .i64 x5_1 (ji26))))) (ds:= [13]) ⟨hx522_0,hx523_0⟩ (fun hHeld=> ?_);refine Qey Qw.tab11 Qw.bits11 (fun HT_ HW_=> ?_);generalize wr.drew=w30 at HO_4 BK515 HB HQ31 hf29_0 hx29_0 hx522_0 hx523_0 hHeld ⊢;refine pU 0 44 ?_;refine pU 1 45 ?_;refine pU 2 46 ?_;refine pU 4 48 ?_;refine pU 5 49 ?_;refine pU 6 50 ?_;refine pU 7 51 ?_;refine pU 8 52 ?_;refine pU 9 53 ?_;refine tW 3 47 hHeld ?_;refine tW 10 54 hHeld ?_;refine pU 11 55 ?_;refine pU 12 56 ?_;refine lU 13 none fun K hK=> ?_
                   refine sK ?_;refine hK.out _ _ ?_;clear hK K;refine dU ?_
                   try go_wp2
                   (try simp only [←hl4_2])
                   go_roundg k2
                   case measure=>have:=HK1.out;have:=HK2.out;omega
                   case rel=>exact ⟨(y524),(wrap64 (x29_2+1)),(by first|rfl|(simp;done)|(simp [*];done)),H',⟨by have:=HK1.out;have:=HK2.out;omega⟩,⟨by (try simp only [hl4_1]);(try simp only [hl4_2]);(with_reducible repeat (first|apply Kd.R_alloc|apply Kd.R_drewN|apply Kd.R_drew));exact HQ31.out⟩,⟨by (try simp only [hl4_1]);(try simp only [hl4_2]);(with_reducible repeat (first|refine Qcg ?_ _|refine Qc7 ?_|refine Qci ?_ _));refine Qd5 ?_ (by have h_:=Kd.R_ne HO_4.out BK515.out (by decide);intro e_;exact h_ (by rw [e_];rfl)) _;(with_reducible repeat (first|refine Qcg ?_ _|refine Qc7 ?_|refine Qci ?_ _));exact BK515.out⟩,⟨(vB HB)⟩⟩
                  ·
                   rw [if_neg c28] at H;exact absurd H (by simp)
                 ·
                  rw [if_neg c27] at H;exact absurd H (by simp)
                ·
                 rw [if_neg c24] at H;exact absurd H (by simp)
               ·
                rw [if_neg c23] at H;exact absurd H (by simp)
              ·
               rw [if_neg c22] at H;have c22b0:((Go.bits .andNot .i64 (rd l0_0 x29_2) x5_1)==0)=false:=beq_eq_false_iff_ne.mpr c22;have c22b1:((Go.bits .andNot .i64 (rd l0_0 x29_2) x5_1) !=0)=true:=bne_iff_ne.mpr c22;have H':=Zk H;clear H;have p520:0≤(x29_2:Int):=of_decide_eq_true (by first|(with_reducible assumption)|assumption);have q520:x29_2<(l0_0.length:Int):=of_decide_eq_true (by first|(with_reducible assumption)|assumption);obtain ⟨ad520,e520,hx520_0⟩:=Kd.at_int HR0_0.out x29_2 p520 q520;cases e520;replace hx520_0:=(HB.out.cell (World.block_lt_of_cell? w _ hx520_0)).trans hx520_0;replace p520:=eq_true p520;replace q520:=eq_true q520;go_wp2_with (first|(refine gA (some 36) Tryz.func253 #[.int .i64 x5_1, .int .i64 x29_2] ?_;(with_reducible refine (Qc0.calls x5_1 x29_2 false _ A20.out).mono ?_);rintro e w' ⟨rfl,⟨nd,rfl⟩⟩;refine ⟨_,rfl,?_⟩))
               (try simp only [←hl4_2])
               go_roundg k2
               case measure=>have:=HK1.out;have:=HK2.out;omega
               case rel=>exact ⟨(x4_2),(wrap64 (x29_2+1)),(by first|rfl|(simp;done)|(simp [*];done)),H',⟨by have:=HK1.out;have:=HK2.out;omega⟩,⟨by (try simp only [hl4_1]);(try simp only [hl4_2]);(with_reducible repeat (first|apply Kd.R_alloc|apply Kd.R_drewN|apply Kd.R_drew));exact HO_4.out⟩,⟨by (try simp only [hl4_1]);(try simp only [hl4_2]);(with_reducible repeat (first|refine Qcg ?_ _|refine Qc7 ?_|refine Qci ?_ _));exact BK515.out⟩,⟨(vB HB)⟩⟩
            ·
             rw [if_neg c19] at H;exact absurd H (by simp)
           ·
            rw [if_neg c18] at H;exact absurd H (by simp)
          ·
           rw [if_neg c17] at H;have c17b0:=decide_eq_false c17;clear c17;have H':=Zk H;clear H;go_wp2
           (try simp only [←hl4_1,←hl4_2])
           go_roundg k2
           case measure=>have:=HK1.out;have:=HK2.out;omega
           case rel=>exact ⟨(x4_2),(wrap64 (x5_1 - 1)),(by first|rfl|(simp;done)|(simp [*];done)),H',⟨by have:=HK1.out;have:=HK2.out;omega⟩,⟨by (try simp only [hl4_1]);(try simp only [hl4_2]);(with_reducible repeat (first|apply Kd.R_alloc|apply Kd.R_drewN|apply Kd.R_drew));exact HO_4.out⟩,⟨by (try simp only [hl4_1]);(try simp only [hl4_2]);(with_reducible repeat (first|refine Qcg ?_ _|refine Qc7 ?_|refine Qci ?_ _));exact BK515.out⟩,⟨(vB HB)⟩⟩
       ·
        rw [if_neg c15] at H;have c15b0:=decide_eq_false c15;clear c15;obtain rfl:=Option.some.inj H;go_wp2
        go_ret
        exact ⟨_,by first|rfl|(simp [Qe,Qf] <;>rfl)|(simp only [←hji2,←hji5];first|rfl|(simp [Qe,Qf] <;>rfl))|(simp [*,Qe,Qf] <;>rfl),uR HO_4,(vB HB)⟩
    ·
     rw [if_neg c7] at H;exact absurd H (by simp)
   ·
    rw [if_neg c6] at H;exact absurd H (by simp)
  ·
   rw [if_neg c4] at H;exact absurd H (by simp)
 ·
  rw [if_neg c3] at H;exact absurd H (by simp)
mutual
def Qbl.l0:Nat→List Int→Int→List Int→Int→List Int→Option (List Int)
 |0,_,_,_,_,_=>none
 |k+1,x1,x2,x7,x8,x526000=>if (x7.length:Int)<(x526000.length:Int) then (Qbl.l1 k x1 x2 x7 x8 x526000 (x526000.length:Int) 0 x526000) else (some x7)
def Qbl.l1:Nat→List Int→Int→List Int→Int→List Int→Int→Int→List Int→Option (List Int)
 |0,_,_,_,_,_,_,_,_=>none
 |k+1,x1,x2,x7,x8,x19,x20,x21,x526000=>if x21<x20 then (if 0≤x21 then (if x21<(x19.length:Int) then ((Qc0.f x8 x21).bind fun t527=>(if t527=true then (Qbl.j2 k x1 x2 x7 x8 x21 x19 x20 x21 true x526000) else (Qbl.j2 k x1 x2 x7 x8 x21 x19 x20 x21 ((Go.bits .andNot .i64 (rd x19 x21) x8) !=0) x526000))) else (none)) else (none)) else (Qbl.l0 k x1 x2 x7 x8 x526000)
def Qbl.j2:Nat→List Int→Int→List Int→Int→Int→List Int→Int→Int→Bool→List Int→Option (List Int)
 |0,_,_,_,_,_,_,_,_,_,_=>none
 |k+1,x1,x2,x7,x8,x9,x19,x20,x21,x34,x526000=>if x34=true then (Qbl.l1 k x1 x2 x7 x8 x19 x20 (wrap64 (x21+1)) x526000) else (if 0≤x9 then (if 0≤(Go.bits .or .i64 x8 (shl .i64 1 x9)) then (if (Go.bits .or .i64 x8 (shl .i64 1 x9))<(x1.length:Int) then (if x2<(rd x1 (Go.bits .or .i64 x8 (shl .i64 1 x9))) then (if x7.length<17592186044416 then (Qbl.l0 k x1 x2 (x7++ [x9]) (Go.bits .or .i64 x8 (shl .i64 1 x9)) x526000) else (none)) else (Qbl.l1 k x1 (wrap64 (x2 - (rd x1 (Go.bits .or .i64 x8 (shl .i64 1 x9))))) x7 x8 x19 x20 (wrap64 (x21+1)) x526000)) else (none)) else (none)) else (none))
end
def Qbl.f (k:Nat) (l0_0:List Int) (l1:List Int) (a2:Int):Option (List Int):=Qbl.l0 k l1 a2 ([] :List Int) 0 l0_0
theorem Qbl.mono_l: ∀ k,(∀ y0 y1 y2 y3 y4,LeO (Qbl.l0 k y0 y1 y2 y3 y4) (Qbl.l0 (k+1) y0 y1 y2 y3 y4))∧(∀ y0 y1 y2 y3 y4 y5 y6 y7,LeO (Qbl.l1 k y0 y1 y2 y3 y4 y5 y6 y7) (Qbl.l1 (k+1) y0 y1 y2 y3 y4 y5 y6 y7))∧(∀ y0 y1 y2 y3 y4 y5 y6 y7 y8 y9,LeO (Qbl.j2 k y0 y1 y2 y3 y4 y5 y6 y7 y8 y9) (Qbl.j2 (k+1) y0 y1 y2 y3 y4 y5 y6 y7 y8 y9))
 |0=>⟨fun _ _ _ _ _ r h=>by simp [Qbl.l0] at h,fun _ _ _ _ _ _ _ _ r h=>by simp [Qbl.l1] at h,fun _ _ _ _ _ _ _ _ _ _ r h=>by simp [Qbl.j2] at h⟩
 |k+1=>by
  obtain ⟨ih0,ih1,ih2⟩:=Qbl.mono_l k;refine ⟨?_,?_,?_⟩
  all_goals
   intros
   first|unfold Qbl.l0|unfold Qbl.l1|unfold Qbl.j2
   repeat' (with_reducible first|apply ih0|apply ih1|apply ih2|exact LeO.refl _|exact LeO.none _|refine LeO.ite ?_ ?_|refine LeO.bind ?_ (fun _=> ?_))
theorem Qbl.mono: ∀ a0 a1 a2 k,LeO (Qbl.f k a0 a1 a2) (Qbl.f (k+1) a0 a1 a2):=by
 intro a0 a1 a2 k;obtain ⟨ih0,ih1,ih2⟩:=Qbl.mono_l k;unfold Qbl.f
 repeat' (with_reducible first|apply ih0|apply ih1|apply ih2|exact LeO.refl _|exact LeO.none _|refine LeO.ite ?_ ?_|refine LeO.bind ?_ (fun _=> ?_))
set_option maxHeartbeats 8000000 in
set_option maxRecDepth 100000 in
theorem Qbl.calls (k:Nat) (A0_0:Option Addr) (c0_0:Nat) (l0_0:List Int) (A1:Option Addr) (c1:Nat) (l1:List Int) (a2:Int) (r:List Int) (w:World) (hr0_0:Kd.C (Kd.int .i64) w A0_0 l0_0.length l0_0) (hc0_0:l0_0.length≤c0_0) (hr1:Kd.C (Kd.int .i64) w A1 l1.length l1) (hc1:l1.length≤c1) (h:Qbl.f k l0_0 l1 a2=some r):
 Calls Tryz.prog 319 #[.agg #[.slice A0_0 l0_0.length c0_0], .slice A1 l1.length c1, .int .i64 a2] w fun e w'=> ∃ v0_:Value,e= .returned (v0_)∧Kd.R (Kd.int .i64) 3 w' w.heap.size (fun _=>True) v0_ r∧Below w.heap.size w w':=by
 have hu26:=Tryz.underlying26;have HR0_0:=Zk hr0_0;have HC0_0:=Zk hc0_0;clear hr0_0 hc0_0;have HR1:=Zk hr1;have HC1:=Zk hc1;clear hr1 hc1;have HB:=Zk (Below.refl w.heap.size w);have H:(Qbl.l0 k l1 a2 ([] :List Int) 0 l0_0)=some r:=h;clear h;have H':=Zk H;clear H;go_enter Tryz.func319,Tryz.ntmps319;go_wp2_with (first|(refine bE (N:=3) (cs:= #[.slice A0_0 l0_0.length c0_0]) (t:=26) ?_;intro gb525 hg w4 hbox hb;have BK525:=Zk (hbox);have GW525:=Zk ((by rw [hg];exact (Qh (uB HB)):w.heap.size≤gb525));have GE525:=GW525;replace HB:=Zk (Qb (uB HB) hb);clear hb hbox hg))
 go_loopg [2,7,8] k (fun kq v2 v7 v8 w'=> ∃ (x2_1:Int) (x7_1:List Int) (x8_1:Int),v2= .int .i64 x2_1∧v8= .int .i64 x8_1∧Z0 (Qbl.l0 kq l1 x2_1 x7_1 x8_1 l0_0=some r)∧Z0 (kq≤k)∧Z0 (Kd.R (Kd.int .i64) 3 w' w.heap.size (fun _=>True) v7 x7_1)∧Z0 (w'.heap[gb525]? =some (.cells #[(.slice A0_0 l0_0.length c0_0)] 26 (0,0)))∧Z0 (Below w.heap.size w w'))
 case atStart=>exact ⟨(a2),(([] :List Int)),(0),(by first|rfl|(simp;done)|(simp [*];done)),(by first|rfl|(simp;done)|(simp [*];done)),H',⟨Nat.le_refl _⟩,⟨by first|exact Kd.R_nil _ _ _ _ _|exact Kd.N_nil _ _ _ _ _|exact Kd.V_nil _ _ _ _ _|exact Kd.Q_nil _ _ _ _ _|exact Kd.S_nil _ _ _ _ _⟩,⟨uK BK525⟩,⟨(vB HB)⟩⟩
 case round=>
  clear H'
  skip
  obtain ⟨x2_1,x7_1,x8_1,rfl,rfl,HA,HK1,HO_7,BK525,HB⟩:=hrel;cases gk with
  |zero=>exact absurd HA.out (by simp [Qbl.l0])
  |succ k1=>
   have H:=HA.out;clear HA;simp only [Qbl.l0] at H
   by_cases c5:(x7_1.length:Int)<(l0_0.length:Int)
   ·
    rw [if_pos c5] at H;have c5b0:=decide_eq_true c5;have c5b1:decide (x7_1.length<l0_0.length)=true:=decide_eq_true (Int.ofNat_lt.mp c5);clear c5;have H':=Zk H;clear H;obtain ⟨Ao6,co6,eo6⟩:=Kd.R_slice HO_7.out;subst eo6;have hcz7_0:=bC BK525;have hfz7_0:=Q6 BK525.out 0;go_wp2
    go_loopg [2,7,8,21] k1 (fun kq v2 v7 v8 v21 w'=> ∃ (x2_2:Int) (x7_2:List Int) (x8_2:Int) (x21_2:Int),v2= .int .i64 x2_2∧v8= .int .i64 x8_2∧v21= .int .i64 x21_2∧Z0 (Qbl.l1 kq l1 x2_2 x7_2 x8_2 l0_0 (l0_0.length:Int) x21_2 l0_0=some r)∧Z0 (kq≤k1)∧Z0 (Kd.R (Kd.int .i64) 3 w' w.heap.size (fun _=>True) v7 x7_2)∧Z0 (w'.heap[gb525]? =some (.cells #[(.slice A0_0 l0_0.length c0_0)] 26 (0,0)))∧Z0 (Below w.heap.size w w'))
    case atStart=>exact ⟨(x2_1),(x7_1),(x8_1),(0),(by first|rfl|(simp;done)|(simp [*];done)),(by first|rfl|(simp;done)|(simp [*];done)),(by first|rfl|(simp;done)|(simp [*];done)),H',⟨Nat.le_refl _⟩,⟨uR HO_7⟩,⟨uK BK525⟩,⟨(vB HB)⟩⟩
    case round=>
     clear H'
     try clear c5b0 c5b1 hcz7_0 hfz7_0
     obtain ⟨x2_2,x7_2,x8_2,x21_2,rfl,rfl,rfl,HA,HK2,HO_7,BK525,HB⟩:=hrel;cases gk with
     |zero=>exact absurd HA.out (by simp [Qbl.l1])
     |succ k2=>
      have H:=HA.out;clear HA;simp only [Qbl.l1] at H
      by_cases c8:x21_2<(l0_0.length:Int)
      ·
       rw [if_pos c8] at H;have c8b0:=decide_eq_true c8;clear c8
       by_cases c9:0≤x21_2
       ·
        rw [if_pos c9] at H;have c9b0:=decide_eq_true c9;clear c9
        by_cases c10:x21_2<(l0_0.length:Int)
        ·
         rw [if_pos c10] at H;have c10b0:=decide_eq_true c10;clear c10;have HC11:=Zk H;clear H;have p526:0≤(x21_2:Int):=of_decide_eq_true (by first|(with_reducible assumption)|assumption);have q526:x21_2<(l0_0.length:Int):=of_decide_eq_true (by first|(with_reducible assumption)|assumption);obtain ⟨ad526,e526,hx526_0⟩:=Kd.at_int HR0_0.out x21_2 p526 q526;cases e526;replace hx526_0:=(HB.out.cell (World.block_lt_of_cell? w _ hx526_0)).trans hx526_0;replace p526:=eq_true p526;replace q526:=eq_true q526;go_upto_region 7 with (fail)
         go_cut [34] (fun v34 wc=> ∃ (kq:Nat) (x34_10:Bool),v34= .bool x34_10∧Z0 (Qbl.j2 kq l1 x2_2 x7_2 x8_2 x21_2 l0_0 (l0_0.length:Int) x21_2 x34_10 l0_0=some r)∧Z0 (kq≤k2)∧Z0 (Kd.R (Kd.int .i64) 3 wc w.heap.size (fun _=>True) u7 x7_2)∧Z0 (wc.heap[gb525]? =some (.cells #[(.slice (some ad526) l0_0.length c0_0)] 26 (0,0)))∧Z0 (Below w.heap.size w wc))
         case first=>
          have H:=HC11.out;clear HC11;obtain ⟨t527,A12,H⟩:=bs H;(try dsimp only at H)
          by_cases c13:t527=true
          ·
           subst c13;rw [if_pos rfl] at H;have H':=Zk H;clear H;go_wp2_with (first|(refine gA (some 28) Tryz.func253 #[.int .i64 x8_2, .int .i64 x21_2] ?_;(with_reducible refine (Qc0.calls x8_2 x21_2 true _ A12.out).mono ?_);rintro e w' ⟨rfl,⟨nd,rfl⟩⟩;refine ⟨_,rfl,?_⟩))
           go_meet
           case rel=>exact ⟨_,(true),(by first|rfl|(simp;done)|(simp [*];done)),H',⟨by have:=HK1.out;have:=HK2.out;first|omega|exact Nat.le_refl _⟩,⟨uR HO_7⟩,⟨uK BK525⟩,⟨(vB HB)⟩⟩
          ·
           replace c13:=Bool.eq_false_iff.mpr c13;subst c13;rw [if_neg (show ¬ (false=true) by decide)] at H;have H':=Zk H;clear H;go_wp2_with (first|(refine gA (some 28) Tryz.func253 #[.int .i64 x8_2, .int .i64 x21_2] ?_;(with_reducible refine (Qc0.calls x8_2 x21_2 false _ A12.out).mono ?_);rintro e w' ⟨rfl,⟨nd,rfl⟩⟩;refine ⟨_,rfl,?_⟩))
           go_meet
           case rel=>exact ⟨_,(((Go.bits .andNot .i64 (rd l0_0 x21_2) x8_2) !=0)),(by first|rfl|(simp;done)|(simp [*];done)),H',⟨by have:=HK1.out;have:=HK2.out;first|omega|exact Nat.le_refl _⟩,⟨uR HO_7⟩,⟨uK BK525⟩,⟨(vB HB)⟩⟩
         case rest=>
          clear HC11
          try clear c8b0 c9b0 c10b0 hx526_0 p526 q526
          obtain ⟨kq,x34_10,rfl,HA,HJ10,HO_7,BK525,HB⟩:=hcut;cases kq with
          |zero=>exact absurd HA.out (by simp [Qbl.j2])
          |succ kj10=>
           have H:=HA.out;clear HA;simp only [Qbl.j2] at H
           by_cases c14:x34_10=true
           ·
            subst c14;rw [if_pos rfl] at H;have H':=Zk H;clear H;go_wp2;go_roundg kj10
            case measure=>have:=HK1.out;have:=HK2.out;have:=HJ10.out;omega
            case rel=>exact ⟨(x2_2),(x7_2),(x8_2),(wrap64 (x21_2+1)),(by first|rfl|(simp;done)|(simp [*];done)),(by first|rfl|(simp;done)|(simp [*];done)),(by first|rfl|(simp;done)|(simp [*];done)),H',⟨by have:=HK1.out;have:=HK2.out;have:=HJ10.out;omega⟩,⟨uR HO_7⟩,⟨uK BK525⟩,⟨(vB HB)⟩⟩
           ·
            replace c14:=Bool.eq_false_iff.mpr c14;subst c14;rw [if_neg (show ¬ (false=true) by decide)] at H
            by_cases c15:0≤x21_2
            ·
             rw [if_pos c15] at H;have c15b0:=eq_true c15;have c15b1:=decide_eq_true c15;clear c15;obtain ⟨ji16,hji16⟩: ∃ j_:Int,(shl .i64 1 x21_2)=j_:=⟨_,rfl⟩
             replace H:(if 0≤(Go.bits .or .i64 x8_2 (ji16)) then (if (Go.bits .or .i64 x8_2 (ji16))<(l1.length:Int) then (if x2_2<(rd l1 (Go.bits .or .i64 x8_2 (ji16))) then (if x7_2.length<17592186044416 then (Qbl.l0 kj10 l1 x2_2 (x7_2++ [x21_2]) (Go.bits .or .i64 x8_2 (ji16)) l0_0) else (none)) else (Qbl.l1 kj10 l1 (wrap64 (x2_2 - (rd l1 (Go.bits .or .i64 x8_2 (ji16))))) x7_2 x8_2 l0_0 (l0_0.length:Int) (wrap64 (x21_2+1)) l0_0)) else (none)) else (none))=some r:=by first|(rw [hji16] at H;exact H)|(simp only [hji16] at H ⊢;exact H)
             have hji16_:(IntKind.i64.wrap (1*2 ^ min x21_2.toNat 64))=ji16:=hji16;have hji16z:x21_2≤64→(IntKind.i64.wrap (1*2 ^ x21_2.toNat))=ji16:=Qea hji16;have hji16u:(IntKind.i64.wrap (2 ^ min x21_2.toNat 64))=ji16:=by have h_:=hji16_;rw [Int.one_mul] at h_;exact h_
             have hji16v:x21_2≤64→(IntKind.i64.wrap (2 ^ x21_2.toNat))=ji16:=fun hle_=>by have h_:=hji16z hle_;rw [Int.one_mul] at h_;exact h_
             have hji16y:(wrap64 (1*2 ^ min x21_2.toNat 64))=ji16:=(Qcm _).symm.trans hji16_;have hji16x:x21_2≤64→(wrap64 (1*2 ^ x21_2.toNat))=ji16:=fun h_=>(Qcm _).symm.trans (hji16z h_)
             by_cases c17:0≤(Go.bits .or .i64 x8_2 (ji16))
             ·
              rw [if_pos c17] at H;have c17b0:=decide_eq_true c17;clear c17
              by_cases c18:(Go.bits .or .i64 x8_2 (ji16))<(l1.length:Int)
              ·
               rw [if_pos c18] at H;have c18b0:=decide_eq_true c18;clear c18
               by_cases c19:x2_2<(rd l1 (Go.bits .or .i64 x8_2 (ji16)))
               ·
                rw [if_pos c19] at H;have c19b0:=decide_eq_true c19;clear c19
                by_cases c20:x7_2.length<17592186044416
                ·
                 rw [if_pos c20] at H;have LMc20:=Zk c20;clear c20;obtain ⟨y529,hy529⟩: ∃ y_:List Int,y_=(x7_2++ [x21_2]):=⟨_,rfl⟩
                 replace H:(Qbl.l0 kj10 l1 x2_2 y529 (Go.bits .or .i64 x8_2 (ji16)) l0_0)=some r:=by first|(rw [hy529];with_reducible exact H)|(have H2_:=(Option.bind_some _ _).symm.trans H;rw [hy529];with_reducible exact H2_)|(have H2_:=(Option.bind_some _ _).symm.trans H;with_reducible exact H2_)|with_reducible exact H|(rw [hy529];exact H)|exact H
                 have Ny529:=Zk hy529;clear hy529;have c21b0:=eq_true (of_decide_eq_true (by first|(with_reducible assumption)|assumption):0≤x21_2);have H':=Zk H;clear H;have p528:0≤((Go.bits .or .i64 x8_2 (ji16)):Int):=of_decide_eq_true (by first|(with_reducible assumption)|assumption);have q528:(Go.bits .or .i64 x8_2 (ji16))<(l1.length:Int):=of_decide_eq_true (by first|(with_reducible assumption)|assumption);obtain ⟨ad528,e528,hx528_0⟩:=Kd.at_int HR1.out (Go.bits .or .i64 x8_2 (ji16)) p528 q528;cases e528;replace hx528_0:=(HB.out.cell (World.block_lt_of_cell? w _ hx528_0)).trans hx528_0;replace p528:=eq_true p528;replace q528:=eq_true q528;go_wp2_with (first|((with_reducible refine Qb1 (b:= .append) (xs:= #[.tmp 45, .tmp 47]) rfl ?_);at_builtin;refine Kd.R_append (Kd.int .i64) (w0:=w) w.heap.size rfl (.tmp 45) (.tmp 47) 24 3 (.int .i64 0) 8 rfl Tryz.underlying24 Qdq rfl (by decide) (by omega) u7 x7_2 x21_2 [.int .i64 x21_2] (fun _=>True) (fun _=>False) rfl rfl ?aP (fun _ hk=>hk.elim) ?aF ?aO ?aB ?aS ?aL ?_;(case aP=>exact rfl);(case aB=>exact (vB HB));(case aF=>exact (fun _ _=>trivial));(case aO=>exact (uR HO_7));(case aS=>exact (Qh (vB HB)));(case aL=>have:=LMc20.out;omega);intro v530 w22 ho hb hg hat;rw [←Ny529.out] at ho;replace BK525:=Zk (Qc8 (uK BK525) hg (Kd.R_ne HO_7.out BK525.out (by decide)));replace HB:=Zk (hb);have HO531:=Zk (ho);clear HO_7;clear ho hb hg hat));go_roundg kj10
                 case measure=>have:=HK1.out;have:=HK2.out;have:=HJ10.out;omega
                 case rel=>exact ⟨(x2_2),(y529),(Go.bits .or .i64 x8_2 (ji16)),(by first|rfl|(simp;done)|(simp [*];done)),(by first|rfl|(simp;done)|(simp only [←hji16] <;>(first|rfl|simp))|(simp [*];done)),H',⟨by have:=HK1.out;have:=HK2.out;have:=HJ10.out;omega⟩,⟨uR HO531⟩,⟨uK BK525⟩,⟨(vB HB)⟩⟩
                ·
                 rw [if_neg c20] at H;exact absurd H (by simp)
               ·
                rw [if_neg c19] at H;have c19b0:=decide_eq_false c19;clear c19;have H':=Zk H;clear H;have p528:0≤((Go.bits .or .i64 x8_2 (ji16)):Int):=of_decide_eq_true (by first|(with_reducible assumption)|assumption);have q528:(Go.bits .or .i64 x8_2 (ji16))<(l1.length:Int):=of_decide_eq_true (by first|(with_reducible assumption)|assumption);obtain ⟨ad528,e528,hx528_0⟩:=Kd.at_int HR1.out (Go.bits .or .i64 x8_2 (ji16)) p528 q528;cases e528;replace hx528_0:=(HB.out.cell (World.block_lt_of_cell? w _ hx528_0)).trans hx528_0;replace p528:=eq_true p528;replace q528:=eq_true q528;go_wp2;go_roundg kj10
                case measure=>have:=HK1.out;have:=HK2.out;have:=HJ10.out;omega
                case rel=>exact ⟨(wrap64 (x2_2 - (rd l1 (Go.bits .or .i64 x8_2 (ji16))))),(x7_2),(x8_2),(wrap64 (x21_2+1)),(by first|rfl|(simp;done)|(simp only [←hji16] <;>(first|rfl|simp))|(simp [*];done)),(by first|rfl|(simp;done)|(simp [*];done)),(by first|rfl|(simp;done)|(simp [*];done)),H',⟨by have:=HK1.out;have:=HK2.out;have:=HJ10.out;omega⟩,⟨uR HO_7⟩,⟨uK BK525⟩,⟨(vB HB)⟩⟩
              ·
               rw [if_neg c18] at H;exact absurd H (by simp)
             ·
              rw [if_neg c17] at H;exact absurd H (by simp)
            ·
             rw [if_neg c15] at H;exact absurd H (by simp)
        ·
         rw [if_neg c10] at H;exact absurd H (by simp)
       ·
        rw [if_neg c9] at H;exact absurd H (by simp)
      ·
       rw [if_neg c8] at H;have c8b0:=decide_eq_false c8;clear c8;have H':=Zk H;clear H;go_wp2;go_roundg k2
       case measure=>have:=HK1.out;have:=HK2.out;omega
       case rel=>exact ⟨(x2_2),(x7_2),(x8_2),(by first|rfl|(simp;done)|(simp [*];done)),(by first|rfl|(simp;done)|(simp [*];done)),H',⟨by have:=HK1.out;have:=HK2.out;omega⟩,⟨uR HO_7⟩,⟨uK BK525⟩,⟨(vB HB)⟩⟩
   ·
    rw [if_neg c5] at H;have c5b0:=decide_eq_false c5;have c5b1:decide (x7_1.length<l0_0.length)=false:=decide_eq_false (fun h=>c5 (Int.ofNat_lt.mpr h));clear c5;obtain rfl:=Option.some.inj H;obtain ⟨Ao23,co23,eo23⟩:=Kd.R_slice HO_7.out;subst eo23;have hcz24_0:=bC BK525;have hfz24_0:=Q6 BK525.out 0;go_wp2
    go_ret
    exact ⟨_,by first|rfl|(simp [Qe,Qf] <;>rfl)|(simp [*,Qe,Qf] <;>rfl),uR HO_7,(vB HB)⟩
def Qcv.l0:Nat→List Int→List (List Int)→Int→List Int→Option ((List (List Int)) × Bool)
 |0,_,_,_,_=>none
 |k+1,x4,x5,x6,x533000=>if 0<(x4.length:Int) then (if x6<(rd x4 0) then ((Qbl.f k x533000 x4 x6).bind fun t538=>(if x5.length<5864062014805 then (Qcv.l0 k x4 (x5++ [t538]) (wrap64 (x6+1)) x533000) else (none))) else (some (x5,true))) else (none)
def Qcv.f (k:Nat) (l0_0:List Int):Option ((List (List Int)) × Bool):=(Qw.f k l0_0).bind fun t533=>(if 0<(t533.length:Int) then (if (rd t533 0)>500 then (some (([] :List (List Int)),false)) else (Qcv.l0 k t533 ([] :List (List Int)) 0 l0_0)) else (none))
theorem Qcv.mono_l: ∀ k,(∀ y0 y1 y2 y3,LeO (Qcv.l0 k y0 y1 y2 y3) (Qcv.l0 (k+1) y0 y1 y2 y3))
 |0=>fun _ _ _ _ r h=>by simp [Qcv.l0] at h
 |k+1=>by
  have ih0:=Qcv.mono_l k
  ·
   intro y0 y1 y2 y3;unfold Qcv.l0
   repeat' first
   |(with_reducible exact ih0 _ _ _ _)
   |(with_reducible exact Qw.mono _ _)
   |(with_reducible exact Qbl.mono _ _ _ _)
   |(with_reducible exact LeO.refl _)
   |(with_reducible exact LeO.none _)
   |(with_reducible refine LeO.ite ?_ ?_)
   |(with_reducible refine LeO.bind ?_ (fun _=> ?_))
   |exact ih0 _ _ _ _
   |exact Qw.mono _ _
   |exact Qbl.mono _ _ _ _
   |exact LeO.none _
   |refine LeO.ite ?_ ?_
   |refine LeO.bind ?_ (fun _=> ?_)
theorem Qcv.mono: ∀ a0 k,LeO (Qcv.f k a0) (Qcv.f (k+1) a0):=by
 intro a0 k;have ih0:=Qcv.mono_l k;unfold Qcv.f
 repeat' (with_reducible first|apply ih0|apply Qw.mono|apply Qbl.mono|exact LeO.refl _|exact LeO.none _|refine LeO.ite ?_ ?_|refine LeO.bind ?_ (fun _=> ?_))
set_option maxHeartbeats 8000000 in
set_option maxRecDepth 100000 in
theorem Qcv.calls (k:Nat) (A0_0:Option Addr) (c0_0:Nat) (l0_0:List Int) (r1:List (List Int)) (r2:Bool) (w:World) (hr0_0:Kd.C (Kd.int .i64) w A0_0 l0_0.length l0_0) (hc0_0:l0_0.length≤c0_0) (h:Qcv.f k l0_0=some (r1,r2)):
 Calls Tryz.prog 269 #[.agg #[.slice A0_0 l0_0.length c0_0]] w fun e w'=> ∃ v0_:Value,e= .returned (.tuple #[v0_, .bool r2])∧Kd.S (Kd.slice 3 (Kd.int .i64)) 24 w' w.heap.size (fun _=>True) v0_ r1∧Below w.heap.size w w':=by
 have hu26:=Tryz.underlying26;have HR0_0:=Zk hr0_0;have HC0_0:=Zk hc0_0;clear hr0_0 hc0_0;have HB:=Zk (Below.refl w.heap.size w);have H:((Qw.f k l0_0).bind fun t533=>(if 0<(t533.length:Int) then (if (rd t533 0)>500 then (some (([] :List (List Int)),false)) else (Qcv.l0 k t533 ([] :List (List Int)) 0 l0_0)) else (none)))=some (r1,r2):=h;clear h;obtain ⟨t533,A2,H⟩:=bs H;(try dsimp only at H)
 by_cases c3:0<(t533.length:Int)
 ·
  rw [if_pos c3] at H;have c3b0:=decide_eq_true c3;have c3b1:decide (0<t533.length)=true:=decide_eq_true (by omega);clear c3
  by_cases c4:(rd t533 0)>500
  ·
   rw [if_pos c4] at H;have c4b0:=decide_eq_true c4;clear c4;simp only [Option.some.injEq,Prod.mk.injEq] at H;obtain ⟨rfl,rfl⟩:=H;go_enter Tryz.func269,Tryz.ntmps269;go_wp2_with (first|(refine bE (N:=1) (cs:= #[.slice A0_0 l0_0.length c0_0]) (t:=26) ?_;intro gb532 hg w5 hbox hb;have BK532:=Zk (hbox);have GW532:=Zk ((by rw [hg];exact (Qh (uB HB)):w.heap.size≤gb532));have GE532:=GW532;replace HB:=Zk (Qb (uB HB) hb);clear hb hbox hg;have hcz6_0:=bC BK532;have hfz6_0:=Q6 BK532.out 0)|(refine gA (some 8) Tryz.func317 #[.agg #[.slice A0_0 l0_0.length c0_0]] ?_;(with_reducible refine (Qw.calls k _ _ l0_0 t533 _ (uD HR0_0 HB) HC0_0.out A2.out).mono ?_);rintro e w7 ⟨v534,rfl,ho0,hb⟩;refine ⟨_,rfl,?_⟩;have HO535:=Zk (Kd.R_lower ho0 (Qh (vB HB)));replace BK532:=Zk (Qbg (uK BK532) hb);replace HB:=Zk (Qb (vB HB) hb);(try clear hb ho0);obtain ⟨Ao8,co8,eo8⟩:=Kd.R_slice HO535.out;subst eo8;have p536:0≤(0:Int):=(by omega);have q536:0<(t533.length:Int):=of_decide_eq_true (by first|(with_reducible assumption)|assumption);obtain ⟨ad536,e536,hx536_0⟩:=Kd.at_int (Kd.R_reads' HO535.out).2.2 0 p536 q536;cases e536;have qi536:(0<t533.length)=True:=eq_true (by omega);(try rw [show ((0:Int)).toNat=0 from rfl] at hx536_0);(try rw [Addr.add_zero'] at hx536_0);replace p536:=eq_true p536;replace q536:=eq_true q536))
   go_ret2
   exact ⟨_,by first|rfl|(simp [Qe,Qf] <;>rfl)|(simp [*,Qe,Qf] <;>rfl),by first|exact Kd.S_nil _ _ _ _ _|exact Kd.N_nil _ _ _ _ _|exact Kd.V_nil _ _ _ _ _|exact Kd.Q_nil _ _ _ _ _|exact Kd.R_nil _ _ _ _ _,(vB HB)⟩
  ·
   rw [if_neg c4] at H;have c4b0:=decide_eq_false c4;clear c4;have H':=Zk H;clear H;go_enter Tryz.func269,Tryz.ntmps269;go_wp2_with (first|(refine bE (N:=1) (cs:= #[.slice A0_0 l0_0.length c0_0]) (t:=26) ?_;intro gb532 hg w9 hbox hb;have BK532:=Zk (hbox);have GW532:=Zk ((by rw [hg];exact (Qh (uB HB)):w.heap.size≤gb532));have GE532:=GW532;replace HB:=Zk (Qb (uB HB) hb);clear hb hbox hg;have hcz10_0:=bC BK532;have hfz10_0:=Q6 BK532.out 0)|(refine gA (some 8) Tryz.func317 #[.agg #[.slice A0_0 l0_0.length c0_0]] ?_;(with_reducible refine (Qw.calls k _ _ l0_0 t533 _ (uD HR0_0 HB) HC0_0.out A2.out).mono ?_);rintro e w11 ⟨v534,rfl,ho0,hb⟩;refine ⟨_,rfl,?_⟩;have HO535:=Zk (Kd.R_lower ho0 (Qh (vB HB)));replace BK532:=Zk (Qbg (uK BK532) hb);replace HB:=Zk (Qb (vB HB) hb);(try clear hb ho0);obtain ⟨Ao12,co12,eo12⟩:=Kd.R_slice HO535.out;subst eo12;have p536:0≤(0:Int):=(by omega);have q536:0<(t533.length:Int):=of_decide_eq_true (by first|(with_reducible assumption)|assumption);obtain ⟨ad536,e536,hx536_0⟩:=Kd.at_int (Kd.R_reads' HO535.out).2.2 0 p536 q536;cases e536;have qi536:(0<t533.length)=True:=eq_true (by omega);(try rw [show ((0:Int)).toNat=0 from rfl] at hx536_0);(try rw [Addr.add_zero'] at hx536_0);replace p536:=eq_true p536;replace q536:=eq_true q536))
   go_loopg [5,6] k (fun kq v5 v6 w'=> ∃ (x5_1:List (List Int)) (x6_1:Int),v6= .int .i64 x6_1∧Z0 (Qcv.l0 kq t533 x5_1 x6_1 l0_0=some (r1,r2))∧Z0 (kq≤k)∧Z0 (Kd.R (Kd.int .i64) 3 w' w.heap.size (fun _=>True) (.slice (some ad536) t533.length co12) t533)∧Z0 (Kd.S (Kd.slice 3 (Kd.int .i64)) 24 w' w.heap.size (fun k_=>some k_≠((.slice (some ad536) t533.length co12):Value).ownBlock) v5 x5_1)∧Z0 (w'.heap[gb532]? =some (.cells #[(.slice A0_0 l0_0.length c0_0)] 26 (0,0)))∧Z0 (Below w.heap.size w w'))
   case atStart=>exact ⟨(([] :List (List Int))),(0),(by first|rfl|(simp;done)|(simp [*];done)),H',⟨Nat.le_refl _⟩,⟨uR HO535⟩,⟨by first|exact Kd.S_nil _ _ _ _ _|exact Kd.N_nil _ _ _ _ _|exact Kd.V_nil _ _ _ _ _|exact Kd.Q_nil _ _ _ _ _|exact Kd.R_nil _ _ _ _ _⟩,⟨uK BK532⟩,⟨(vB HB)⟩⟩
   case round=>
    clear H'
    try clear c3b0 c3b1 c4b0 hcz10_0 hfz10_0 hx536_0 p536 q536
    obtain ⟨x5_1,x6_1,rfl,HA,HK1,HO_4,HO_5,BK532,HB⟩:=hrel;cases gk with
    |zero=>exact absurd HA.out (by simp [Qcv.l0])
    |succ k1=>
     have H:=HA.out;clear HA;simp only [Qcv.l0] at H
     by_cases c13:0<(t533.length:Int)
     ·
      rw [if_pos c13] at H;have c13b0:=decide_eq_true c13;have c13b1:decide (0<t533.length)=true:=decide_eq_true (by omega);clear c13
      by_cases c14:x6_1<(rd t533 0)
      ·
       rw [if_pos c14] at H;have c14b0:=decide_eq_true c14;clear c14;obtain ⟨t538,A15,H⟩:=bs H;(try dsimp only at H)
       by_cases c16:x5_1.length<5864062014805
       ·
        rw [if_pos c16] at H;have LMc16:=Zk c16;clear c16;obtain ⟨y541,hy541⟩: ∃ y_:List (List Int),y_=(x5_1++ [t538]):=⟨_,rfl⟩
        replace H:(Qcv.l0 k1 t533 y541 (wrap64 (x6_1+1)) l0_0)=some (r1,r2):=by first|(rw [hy541];with_reducible exact H)|(have H2_:=(Option.bind_some _ _).symm.trans H;rw [hy541];with_reducible exact H2_)|(have H2_:=(Option.bind_some _ _).symm.trans H;with_reducible exact H2_)|with_reducible exact H|(rw [hy541];exact H)|exact H
        have Ny541:=Zk hy541;clear hy541;have H':=Zk H;clear H;have p537:0≤(0:Int):=(by omega)
        have q537:0<(t533.length:Int):=of_decide_eq_true (by first|(with_reducible assumption)|assumption);obtain ⟨ad537,e537,hx537_0⟩:=Kd.at_int (Kd.R_reads' HO_4.out).2.2 0 p537 q537;obtain rfl:ad536=ad537:=(by injection e537)
        have qi537:(0<t533.length)=True:=eq_true (by omega)
        (try rw [show ((0:Int)).toNat=0 from rfl] at hx537_0)
        (try rw [Addr.add_zero'] at hx537_0)
        replace p537:=eq_true p537;replace q537:=eq_true q537;have hcz17_0:=bC BK532;have hfz17_0:=Q6 BK532.out 0;go_wp2_with (first|(refine gA (some 24) Tryz.func319 #[.agg #[.slice A0_0 l0_0.length c0_0], .slice (some ad536) t533.length co12, .int .i64 x6_1] ?_;(with_reducible refine (Qbl.calls k1 _ _ l0_0 _ _ t533 x6_1 t538 _ (uD HR0_0 HB) HC0_0.out (uE HO_4) ?side4 A15.out).mono ?_);(case side4=>exact (Kd.R_reads' HO_4.out).2.1);rintro e w18 ⟨v539,rfl,ho0,hb⟩;refine ⟨_,rfl,?_⟩;replace HO_5:=Zk (Kd.S_elder' (uS HO_5) (Kd.R_base ho0) hb);have HO540:=Zk (Kd.R_lower (Kd.R_new' ho0 (Kd.R_lt (uR HO_4))) (Qh (vB HB)));replace HO_4:=Zk (Kd.R_elder' (uR HO_4) (Kd.R_base ho0) hb);replace BK532:=Zk (Qbg (uK BK532) hb);replace HB:=Zk (Qb (vB HB) hb);(try clear hb ho0);obtain ⟨Ao20,co20,eo20⟩:=Kd.R_slice HO540.out;subst eo20)|((with_reducible refine Qb1 (b:= .append) (xs:= #[.tmp 20, .tmp 25]) rfl ?_);at_builtin;refine Kd.S_append (Kd.slice 3 (Kd.int .i64)) (w0:=w) w.heap.size rfl (.tmp 20) (.tmp 25) 40 24 (.slice none 0 0) 24 rfl Tryz.underlying40 Qf3 rfl (by decide) (by omega) u5 x5_1 t538 [.slice Ao20 t538.length co20] (fun k_=>some k_≠(.slice (some ad536) t533.length co12:Value).ownBlock) (fun k_=>some k_=(.slice Ao20 t538.length co20:Value).ownBlock) rfl rfl ?aP (fun k_ hk_=>((Kd.R_mono (ok':=fun k_=>((fun k_=>some k_≠(.slice (some ad536) t533.length co12:Value).ownBlock)) k_∧some k_≠(u5:Value).ownBlock) (Kd.R_apart' (HO540.out) (Kd.S_typed HO_5.out) (by decide)) (fun k_ hk=>⟨hk.1.2,hk.2⟩))).1 k_ hk_.symm) ?aF ?aO ?aB ?aS ?aL ?_;(case aP=>exact Kd.M_row (Kd.R_mono (Kd.R_tight rfl (Kd.R_mono (ok':=fun k_=>((fun k_=>some k_≠(.slice (some ad536) t533.length co12:Value).ownBlock)) k_∧some k_≠(u5:Value).ownBlock) (Kd.R_apart' (HO540.out) (Kd.S_typed HO_5.out) (by decide)) (fun k_ hk=>⟨hk.1.2,hk.2⟩))) (fun _ h_=>h_)));(case aB=>exact (vB HB));(case aF=>exact (fun k_ hk=>Kd.fresh' (Kd.R_lt (uR HO_4)) k_ hk));(case aO=>exact (by (with_reducible repeat (first|apply Kd.S_alloc|apply Kd.S_drewN|apply Kd.S_drew));exact Kd.S_mono HO_5.out (fun k_ hk=>⟨hk.1,fun e_=>hk.2 e_⟩)));(case aS=>exact (Qh (vB HB)));(case aL=>have:=LMc16.out;omega);intro v542 w19 ho hb hg hat;rw [←Ny541.out] at ho;replace HO_4:=Zk (Kd.R_over' (uR HO_4) (Kd.S_typed (uS HO_5)) (by decide) hg);replace BK532:=Zk (Qc8 (uK BK532) hg (Kd.S_ne HO_5.out BK532.out (by decide)));replace HB:=Zk (hb);have HO543:=Zk (ho);clear HO_5 HO540;clear ho hb hg hat));go_roundg k1
        case measure=>have:=HK1.out;omega
        case rel=>exact ⟨(y541),(wrap64 (x6_1+1)),(by first|rfl|(simp;done)|(simp [*];done)),H',⟨by have:=HK1.out;omega⟩,⟨Kd.R_mono (uR HO_4) (fun _ hk=>trivial)⟩,⟨uS HO543⟩,⟨uK BK532⟩,⟨(vB HB)⟩⟩
       ·
        rw [if_neg c16] at H;exact absurd H (by simp)
      ·
       rw [if_neg c14] at H;have c14b0:=decide_eq_false c14;clear c14;simp only [Option.some.injEq,Prod.mk.injEq] at H;obtain ⟨rfl,rfl⟩:=H;have p537:0≤(0:Int):=(by omega)
       have q537:0<(t533.length:Int):=of_decide_eq_true (by first|(with_reducible assumption)|assumption);obtain ⟨ad537,e537,hx537_0⟩:=Kd.at_int (Kd.R_reads' HO_4.out).2.2 0 p537 q537;obtain rfl:ad536=ad537:=(by injection e537)
       have qi537:(0<t533.length)=True:=eq_true (by omega)
       (try rw [show ((0:Int)).toNat=0 from rfl] at hx537_0)
       (try rw [Addr.add_zero'] at hx537_0)
       replace p537:=eq_true p537;replace q537:=eq_true q537;go_wp2
       go_ret2
       exact ⟨_,by first|rfl|(simp [Qe,Qf] <;>rfl)|(simp [*,Qe,Qf] <;>rfl),by (with_reducible repeat (first|apply Kd.S_alloc|apply Kd.S_drewN|apply Kd.S_drew));exact Kd.S_mono HO_5.out (fun _ hk=>trivial),(vB HB)⟩
     ·
      rw [if_neg c13] at H;exact absurd H (by simp)
 ·
  rw [if_neg c3] at H;exact absurd H (by simp)
end Go.Proofs.YtkgngggppcmpfaaGreat.L
end
section
namespace Go.Proofs.YtkgngggppcmpfaaGreat.L
open Go.RowKit Go.Proofs.YtkgngggppcmpfaaGreatW.PrintWords Go.Proofs.YtkgngggppcmpfaaGreatW.PrintLast Go.Proofs.YtkgngggppcmpfaaGreatW.PrintMore
attribute [local go_sem] Qy Q0 Qbb Qbc Qp Qq Qz Q1
set_option linter.unusedVariables false
set_option linter.unusedSimpArgs false
def Qca.l0:Nat→List Int→List Int→Int→Int→Option (Bool)
 |0,_,_,_,_=>none
 |k+1,x0,x1,x12,x13=>if x13<x12 then (if 0≤x13 then (if x13<(x0.length:Int) then (if x13<(x1.length:Int) then (if (rd x0 x13)=(rd x1 x13) then (Qca.l0 k x0 x1 x12 (wrap64 (x13+1))) else (some false)) else (none)) else (none)) else (none)) else (some true)
def Qca.f (k:Nat) (l0:List Int) (l1:List Int):Option (Bool):=if (l0.length:Int)=(l1.length:Int) then (Qca.l0 k l0 l1 (l0.length:Int) 0) else (some false)
theorem Qca.mono_l: ∀ k,(∀ y0 y1 y2 y3,LeO (Qca.l0 k y0 y1 y2 y3) (Qca.l0 (k+1) y0 y1 y2 y3))
 |0=>fun _ _ _ _ r h=>by simp [Qca.l0] at h
 |k+1=>by
  have ih0:=Qca.mono_l k
  ·
   intro y0 y1 y2 y3;unfold Qca.l0
   repeat' first
   |(with_reducible exact ih0 _ _ _ _)
   |(with_reducible exact LeO.refl _)
   |(with_reducible exact LeO.none _)
   |(with_reducible refine LeO.ite ?_ ?_)
   |(with_reducible refine LeO.bind ?_ (fun _=> ?_))
   |exact ih0 _ _ _ _
   |exact LeO.none _
   |refine LeO.ite ?_ ?_
   |refine LeO.bind ?_ (fun _=> ?_)
theorem Qca.mono: ∀ a0 a1 k,LeO (Qca.f k a0 a1) (Qca.f (k+1) a0 a1):=by
 intro a0 a1 k;have ih0:=Qca.mono_l k;unfold Qca.f
 repeat' (with_reducible first|apply ih0|exact LeO.refl _|exact LeO.none _|refine LeO.ite ?_ ?_|refine LeO.bind ?_ (fun _=> ?_))
set_option maxHeartbeats 8000000 in
set_option maxRecDepth 100000 in
theorem Qca.calls (k:Nat) (A0:Option Addr) (c0:Nat) (l0:List Int) (A1:Option Addr) (c1:Nat) (l1:List Int) (r:Bool) (w:World) (hr0:Kd.C (Kd.int .i64) w A0 l0.length l0) (hc0:l0.length≤c0) (hr1:Kd.C (Kd.int .i64) w A1 l1.length l1) (hc1:l1.length≤c1) (h:Qca.f k l0 l1=some r):
 Calls Tryz.prog 270 #[.slice A0 l0.length c0, .slice A1 l1.length c1] w fun e w'=>e= .returned (.bool r)∧Drawn0 w w':=by
 have HR0:=Zk hr0;have HC0:=Zk hc0;clear hr0 hc0;have HR1:=Zk hr1;have HC1:=Zk hc1;clear hr1 hc1;have H:(if (l0.length:Int)=(l1.length:Int) then (Qca.l0 k l0 l1 (l0.length:Int) 0) else (some false))=some r:=h;clear h
 by_cases c3:(l0.length:Int)=(l1.length:Int)
 ·
  rw [if_pos c3] at H;have c3b0:((l0.length:Int)==(l1.length:Int))=true:=beq_iff_eq.mpr c3;have c3b1:((l0.length:Int) !=(l1.length:Int))=false:=bne_eq_false_iff_eq.mpr c3;have c3b2:(l0.length==l1.length)=true:=by first|simpa using c3|(simp at c3 ⊢;omega)
  clear c3;have H':=Zk H;clear H;go_enter Tryz.func270,Tryz.ntmps270;go_wp2
  repeat (go_quiet (fail);try go_wp2)
  go_loopg [13] k (fun kq v13 w'=> ∃ (x13_1:Int),v13= .int .i64 x13_1∧Z0 (Qca.l0 kq l0 l1 (l0.length:Int) x13_1=some r)∧Z0 (kq≤k)∧Drawn0 w w')
  case atStart=>exact ⟨(0),(by first|rfl|(simp;done)|(simp [*];done)),H',⟨Nat.le_refl _⟩,by repeat (first|exact Drawn0.refl _|apply Drawn0.step)⟩
  case round=>
   clear H'
   try clear c3b0 c3b1 c3b2
   obtain ⟨x13_1,rfl,HA,HK1,⟨m1,rfl⟩⟩:=hrel;cases gk with
   |zero=>exact absurd HA.out (by simp [Qca.l0])
   |succ k1=>
    have H:=HA.out;clear HA;simp only [Qca.l0] at H
    by_cases c4:x13_1<(l0.length:Int)
    ·
     rw [if_pos c4] at H;have c4b0:=decide_eq_true c4;clear c4
     by_cases c5:0≤x13_1
     ·
      rw [if_pos c5] at H;have c5b0:=decide_eq_true c5;clear c5
      by_cases c6:x13_1<(l0.length:Int)
      ·
       rw [if_pos c6] at H;have c6b0:=decide_eq_true c6;clear c6
       by_cases c7:x13_1<(l1.length:Int)
       ·
        rw [if_pos c7] at H;have c7b0:=decide_eq_true c7;clear c7
        by_cases c8:(rd l0 x13_1)=(rd l1 x13_1)
        ·
         rw [if_pos c8] at H;have c8b0:((rd l0 x13_1)==(rd l1 x13_1))=true:=beq_iff_eq.mpr c8;have c8b1:((rd l0 x13_1) !=(rd l1 x13_1))=false:=bne_eq_false_iff_eq.mpr c8;clear c8;have H':=Zk H;clear H;have p544:0≤(x13_1:Int):=of_decide_eq_true (by first|(with_reducible assumption)|assumption);have q544:x13_1<(l0.length:Int):=of_decide_eq_true (by first|(with_reducible assumption)|assumption);obtain ⟨ad544,e544,hx544_0⟩:=Kd.at_int HR0.out x13_1 p544 q544;cases e544;replace p544:=eq_true p544;replace q544:=eq_true q544;have p545:0≤(x13_1:Int):=of_decide_eq_true (by first|(with_reducible assumption)|assumption);have q545:x13_1<(l1.length:Int):=of_decide_eq_true (by first|(with_reducible assumption)|assumption);obtain ⟨ad545,e545,hx545_0⟩:=Kd.at_int HR1.out x13_1 p545 q545;cases e545;replace p545:=eq_true p545;replace q545:=eq_true q545;go_wp2
         repeat (go_quiet (fail);try go_wp2)
         go_roundg k1
         case measure=>have:=HK1.out;omega
         case rel=>exact ⟨(wrap64 (x13_1+1)),(by first|rfl|(simp;done)|(simp [*];done)),H',⟨by have:=HK1.out;omega⟩,by repeat (first|exact Drawn0.refl _|apply Drawn0.step)⟩
        ·
         rw [if_neg c8] at H;have c8b0:((rd l0 x13_1)==(rd l1 x13_1))=false:=beq_eq_false_iff_ne.mpr c8;have c8b1:((rd l0 x13_1) !=(rd l1 x13_1))=true:=bne_iff_ne.mpr c8;obtain rfl:=Option.some.inj H;have p544:0≤(x13_1:Int):=of_decide_eq_true (by first|(with_reducible assumption)|assumption);have q544:x13_1<(l0.length:Int):=of_decide_eq_true (by first|(with_reducible assumption)|assumption);obtain ⟨ad544,e544,hx544_0⟩:=Kd.at_int HR0.out x13_1 p544 q544;cases e544;replace p544:=eq_true p544;replace q544:=eq_true q544;have p545:0≤(x13_1:Int):=of_decide_eq_true (by first|(with_reducible assumption)|assumption);have q545:x13_1<(l1.length:Int):=of_decide_eq_true (by first|(with_reducible assumption)|assumption);obtain ⟨ad545,e545,hx545_0⟩:=Kd.at_int HR1.out x13_1 p545 q545;cases e545;replace p545:=eq_true p545;replace q545:=eq_true q545;go_wp2
         repeat (go_quiet (fail);try go_wp2)
         go_ret
         exact ⟨by first|rfl|(simp;done)|(simp [*];done),by repeat (first|exact Drawn0.refl _|apply Drawn0.step)⟩
       ·
        rw [if_neg c7] at H;exact absurd H (by simp)
      ·
       rw [if_neg c6] at H;exact absurd H (by simp)
     ·
      rw [if_neg c5] at H;exact absurd H (by simp)
    ·
     rw [if_neg c4] at H;have c4b0:=decide_eq_false c4;clear c4;obtain rfl:=Option.some.inj H;go_wp2
     repeat (go_quiet (fail);try go_wp2)
     go_ret
     exact ⟨by first|rfl|(simp;done)|(simp [*];done),by repeat (first|exact Drawn0.refl _|apply Drawn0.step)⟩
 ·
  rw [if_neg c3] at H;have c3b0:((l0.length:Int)==(l1.length:Int))=false:=beq_eq_false_iff_ne.mpr c3;have c3b1:((l0.length:Int) !=(l1.length:Int))=true:=bne_iff_ne.mpr c3;have c3b2:(l0.length==l1.length)=false:=by first|simpa using c3|(simp at c3 ⊢;omega)
  obtain rfl:=Option.some.inj H;go_enter Tryz.func270,Tryz.ntmps270;go_wp2
  repeat (go_quiet (fail);try go_wp2)
  go_ret
  exact ⟨by first|rfl|(simp;done)|(simp [*];done),by repeat (first|exact Drawn0.refl _|apply Drawn0.step)⟩
end Go.Proofs.YtkgngggppcmpfaaGreat.L
end
section
namespace Go.Proofs.YtkgngggppcmpfaaGreat.L
open Go.RowKit Go.Proofs.YtkgngggppcmpfaaGreatW.PrintWords Go.Proofs.YtkgngggppcmpfaaGreatW.PrintLast Go.Proofs.YtkgngggppcmpfaaGreatW.PrintMore Go.Proofs.YtkgngggppcmpfaaGreat.X
attribute [local go_sem] Qy Q0 Qbb Qbc Qp Qq Qz Q1
set_option linter.unusedVariables false
set_option linter.unusedSimpArgs false
def Qe3.f (l0_0:List Int) (a1:Int) (a2:Int):Option (Bool):=if 0≤a2 then (if a2<(l0_0.length:Int) then ((Qc0.f (rd l0_0 a2) a1).bind fun t548=>(some t548)) else (none)) else (none)
set_option maxHeartbeats 8000000 in
set_option maxRecDepth 100000 in
theorem Qe3.calls (A0_0:Option Addr) (c0_0:Nat) (l0_0:List Int) (a1:Int) (a2:Int) (r:Bool) (w:World) (hr0_0:Kd.C (Kd.int .i64) w A0_0 l0_0.length l0_0) (hc0_0:l0_0.length≤c0_0) (h:Qe3.f l0_0 a1 a2=some r):
 Calls Tryz.prog 349 #[.agg #[.slice A0_0 l0_0.length c0_0], .int .i64 a1, .int .i64 a2] w fun e w'=>e= .returned (.bool r)∧Below w.heap.size w w':=by
 have hu26:=Tryz.underlying26;have HR0_0:=Zk hr0_0;have HC0_0:=Zk hc0_0;clear hr0_0 hc0_0;have HB:=Zk (Below.refl w.heap.size w);have H:(if 0≤a2 then (if a2<(l0_0.length:Int) then ((Qc0.f (rd l0_0 a2) a1).bind fun t548=>(some t548)) else (none)) else (none))=some r:=h;clear h
 by_cases c4:0≤a2
 ·
  rw [if_pos c4] at H;have c4b0:=decide_eq_true c4;clear c4
  by_cases c5:a2<(l0_0.length:Int)
  ·
   rw [if_pos c5] at H;have c5b0:=decide_eq_true c5;clear c5;obtain ⟨t548,A6,H⟩:=bs H;(try dsimp only at H)
   obtain rfl:=Option.some.inj H;go_enter Tryz.func349,Tryz.ntmps349;go_wp2_with (first|(refine bE (N:=3) (cs:= #[.slice A0_0 l0_0.length c0_0]) (t:=26) ?_;intro gb546 hg w7 hbox hb;have BK546:=Zk (hbox);have GW546:=Zk ((by rw [hg];exact (Qh (uB HB)):w.heap.size≤gb546));have GE546:=GW546;replace HB:=Zk (Qb (uB HB) hb);clear hb hbox hg;have hcz8_0:=bC BK546;have hfz8_0:=Q6 BK546.out 0;have p547:0≤(a2:Int):=of_decide_eq_true (by first|(with_reducible assumption)|assumption);have q547:a2<(l0_0.length:Int):=of_decide_eq_true (by first|(with_reducible assumption)|assumption);obtain ⟨ad547,e547,hx547_0⟩:=Kd.at_int HR0_0.out a2 p547 q547;cases e547;replace hx547_0:=(HB.out.cell (World.block_lt_of_cell? w _ hx547_0)).trans hx547_0;replace p547:=eq_true p547;replace q547:=eq_true q547)|(refine gA (some 13) Tryz.func253 #[.int .i64 (rd l0_0 a2), .int .i64 a1] ?_;(with_reducible refine (Qc0.calls (rd l0_0 a2) a1 t548 _ A6.out).mono ?_);rintro e w' ⟨rfl,⟨nd,rfl⟩⟩;refine ⟨_,rfl,?_⟩))
   go_ret
   exact ⟨by first|rfl|(simp [Qe,Qf] <;>rfl)|(simp [*,Qe,Qf] <;>rfl),(vB HB)⟩
  ·
   rw [if_neg c5] at H;exact absurd H (by simp)
 ·
  rw [if_neg c4] at H;exact absurd H (by simp)
end Go.Proofs.YtkgngggppcmpfaaGreat.L
end
