/- Laws about the given program: the law FnRowvacuation answers true for every input that its row lets in; no condition is added to the given statement. Contracts of the Go functions that it reaches, and the plain proof over lists. -/
import Derived.Test.YtkgngggppcmpfaaGreatWFnRowvacuation0
import Derived.Test.YtkgngggppcmpfaaGreatKFnRowvacuation0
section
namespace Go.Proofs.YtkgngggppcmpfaaGreat.L
open Go.RowKit Go.Proofs.YtkgngggppcmpfaaGreatW.PrintWords Go.Proofs.YtkgngggppcmpfaaGreatW.PrintLast Go.Proofs.YtkgngggppcmpfaaGreatW.PrintMore Go.Proofs.YtkgngggppcmpfaaGreat.X
attribute [local go_sem] Qt Qv Q2 Q3 Qm Qn Qu Qw
set_option linter.unusedVariables false
set_option linter.unusedSimpArgs false
mutual
def Qbd.l0 : Nat → Int → Int → List (List Int) → Int → Option (List Int)
 |0,_,_,_,_=>none
 |k+1,x0,x1,x5,x6=>if x6<x0 then (Qbd.l1 k x0 x1 x5 x6 0) else ((Qbg.f k (wrap64 (x0*x1)) x5).bind fun t134=>(some t134))
def Qbd.l1 : Nat → Int → Int → List (List Int) → Int → Int → Option (List Int)
 |0,_,_,_,_,_=>none
 |k+1,x0,x1,x5,x6,x7=>if x7<x1 then (if (wrap64 (x6+1))<x0 then (if x5.length<5864062014805 then ((some (x5++ [(([wrap64 ((wrap64 (x1*x6))+x7),wrap64 ((wrap64 ((wrap64 (x1*x6))+x1))+x7)] :List Int))] :List (List Int))).bind fun y140=>(if (wrap64 (x7+1))<x1 then (if y140.length<5864062014805 then (Qbd.l1 k x0 x1 (y140++ [(([wrap64 ((wrap64 (x1*x6))+x7),wrap64 ((wrap64 ((wrap64 (x1*x6))+x7))+1)] :List Int))]) x6 (wrap64 (x7+1))) else (none)) else (Qbd.l1 k x0 x1 y140 x6 (wrap64 (x7+1))))) else (none)) else (if (wrap64 (x7+1))<x1 then (if x5.length<5864062014805 then (Qbd.l1 k x0 x1 (x5++ [(([wrap64 ((wrap64 (x1*x6))+x7),wrap64 ((wrap64 ((wrap64 (x1*x6))+x7))+1)] :List Int))]) x6 (wrap64 (x7+1))) else (none)) else (Qbd.l1 k x0 x1 x5 x6 (wrap64 (x7+1))))) else (Qbd.l0 k x0 x1 x5 (wrap64 (x6+1)))
end
def Qbd.f (k : Nat) (a0 : Int) (a1 : Int) : Option (List Int) := Qbd.l0 k a0 a1 ([] : List (List Int)) 0
theorem Qbd.mono_l : ∀ k, (∀ y0 y1 y2 y3, LeO (Qbd.l0 k y0 y1 y2 y3) (Qbd.l0 (k + 1) y0 y1 y2 y3)) ∧ (∀ y0 y1 y2 y3 y4, LeO (Qbd.l1 k y0 y1 y2 y3 y4) (Qbd.l1 (k + 1) y0 y1 y2 y3 y4))
 |0=>⟨fun _ _ _ _ r h=>by simp [Qbd.l0] at h,fun _ _ _ _ _ r h=>by simp [Qbd.l1] at h⟩
 |k+1=>by
  obtain ⟨ih0,ih1⟩:=Qbd.mono_l k;refine ⟨?_,?_⟩
  all_goals
   intros
   first|unfold Qbd.l0|unfold Qbd.l1
   repeat' (with_reducible first|apply ih0|apply ih1|apply Qbg.mono|exact LeO.refl _|exact LeO.none _|refine LeO.ite ?_ ?_|refine LeO.bind ?_ (fun _=> ?_))
theorem Qbd.mono : ∀ a0 a1 k, LeO (Qbd.f k a0 a1) (Qbd.f (k + 1) a0 a1) := by
 intro a0 a1 k;obtain ⟨ih0,ih1⟩:=Qbd.mono_l k;unfold Qbd.f
 repeat' (with_reducible first|apply ih0|apply ih1|apply Qbg.mono|exact LeO.refl _|exact LeO.none _|refine LeO.ite ?_ ?_|refine LeO.bind ?_ (fun _=> ?_))
set_option maxHeartbeats 8000000 in
set_option maxRecDepth 100000 in
theorem Qbd.calls (k : Nat) (a0 : Int) (a1 : Int) (r : List Int) (w : World) (h : Qbd.f k a0 a1 = some r) :
 Calls Tryz.prog 209 #[.int .i64 a0, .int .i64 a1] w fun e w'=> ∃ v0_:Value,e= .returned (.agg #[v0_])∧Kd.R (Kd.int .i64) 3 w' w.heap.size (fun _=>True) v0_ r∧Below w.heap.size w w':=by
 have hu26:=Tryz.underlying26;have HB:=Aside0.mk (Below.refl w.heap.size w);have H:(Qbd.l0 k a0 a1 ([] :List (List Int)) 0)=some r:=h;clear h;have H':=Aside0.mk H;clear H;go_enter Tryz.func209,Tryz.ntmps209;go_wp2_with (first|(refine bE (N:=4) (cs:= #[.slice none 0 0]) (t:=26) ?_;intro gb133 hg w3 hbox hb;have BK133:=Aside0.mk (hbox);have GW133:=Aside0.mk ((gV hg (uB HB)));have GE133:=GW133;replace HB:=Aside0.mk (Qa (uB HB) hb);clear hb hbox hg))
 go_loopg [5,6] k (fun kq v5 v6 w'=> ∃ (x5_1:List (List Int)) (x6_1:Int),v6= .int .i64 x6_1∧Aside0 (Qbd.l0 kq a0 a1 x5_1 x6_1=some r)∧Aside0 (kq≤k)∧Aside0 (Kd.S (Kd.slice 3 (Kd.int .i64)) 24 w' w.heap.size (fun _=>True) v5 x5_1)∧Aside0 (w'.heap[gb133]? =some (.cells #[(.slice none 0 0)] 26 (0,0)))∧Aside0 (Below w.heap.size w w'))
 case atStart=>exact ⟨(([] :List (List Int))),(0),(by first|rfl|(simp;done)|(simp [*];done)),H',⟨Nat.le_refl _⟩,⟨by first|exact Kd.S_nil _ _ _ _ _|exact Kd.N_nil _ _ _ _ _|exact Kd.V_nil _ _ _ _ _|exact Kd.Q_nil _ _ _ _ _|exact Kd.R_nil _ _ _ _ _⟩,⟨uK BK133⟩,⟨uB HB⟩⟩
 case round=>
  clear H'
  try clear c2
  try clear p2
  obtain ⟨x5_1,x6_1,rfl,HA,HK1,HO_5,BK133,HB⟩:=hrel;cases gk with
  |zero=>exact absurd HA.out (by simp [Qbd.l0])
  |succ k1=>
   have H:=HA.out;clear HA;simp only [Qbd.l0] at H
   by_cases c4:x6_1<a0
   ·
    rw [if_pos c4] at H;have c4b0:=decide_eq_true c4;clear c4;have H':=Aside0.mk H;clear H;go_wp2
    go_loopg [5,7] k1 (fun kq v5 v7 w'=> ∃ (x5_2:List (List Int)) (x7_2:Int),v7= .int .i64 x7_2∧Aside0 (Qbd.l1 kq a0 a1 x5_2 x6_1 x7_2=some r)∧Aside0 (kq≤k1)∧Aside0 (Kd.S (Kd.slice 3 (Kd.int .i64)) 24 w' w.heap.size (fun _=>True) v5 x5_2)∧Aside0 (w'.heap[gb133]? =some (.cells #[(.slice none 0 0)] 26 (0,0)))∧Aside0 (Below w.heap.size w w'))
    case atStart=>exact ⟨(x5_1),(0),(by first|rfl|(simp;done)|(simp [*];done)),H',⟨Nat.le_refl _⟩,⟨uS HO_5⟩,⟨uK BK133⟩,⟨uB HB⟩⟩
    case round=>
     clear H'
     try clear c2
     try clear p2
     try clear c4
     try clear c4b0
     try clear p2
     obtain ⟨x5_2,x7_2,rfl,HA,HK2,HO_5,BK133,HB⟩:=hrel;cases gk with
     |zero=>exact absurd HA.out (by simp [Qbd.l1])
     |succ k2=>
      have H:=HA.out;clear HA;simp only [Qbd.l1] at H
      by_cases c5:x7_2<a1
      ·
       rw [if_pos c5] at H;have c5b0:=decide_eq_true c5;clear c5
       by_cases c6:(wrap64 (x6_1+1))<a0
       ·
        rw [if_pos c6] at H;have c6b0:=decide_eq_true c6;clear c6;obtain ⟨y137,hy137⟩: ∃ y_:List Int,y_=(([wrap64 ((wrap64 (a1*x6_1))+x7_2),wrap64 ((wrap64 ((wrap64 (a1*x6_1))+a1))+x7_2)] :List Int)):=⟨_,rfl⟩
        replace H:(if x5_2.length<5864062014805 then ((some (x5_2++ [y137] :List (List Int))).bind fun y140=>(if (wrap64 (x7_2+1))<a1 then (if y140.length<5864062014805 then (Qbd.l1 k2 a0 a1 (y140++ [(([wrap64 ((wrap64 (a1*x6_1))+x7_2),wrap64 ((wrap64 ((wrap64 (a1*x6_1))+x7_2))+1)] :List Int))]) x6_1 (wrap64 (x7_2+1))) else (none)) else (Qbd.l1 k2 a0 a1 y140 x6_1 (wrap64 (x7_2+1))))) else (none))=some r:=by first|(rw [hy137];with_reducible exact H)|(have H2_:=(Option.bind_some _ _).symm.trans H;rw [hy137];with_reducible exact H2_)|(have H2_:=(Option.bind_some _ _).symm.trans H;with_reducible exact H2_)|with_reducible exact H|(rw [hy137];exact H)|exact H
        have Ny137:=Aside0.mk hy137;clear hy137
        by_cases c7:x5_2.length<5864062014805
        ·
         rw [if_pos c7] at H;have LMc7:=Aside0.mk c7;clear c7;obtain ⟨y140,hy140⟩: ∃ y_:List (List Int),y_=(x5_2++ [y137]):=⟨_,rfl⟩
         replace H:(if (wrap64 (x7_2+1))<a1 then (if y140.length<5864062014805 then (Qbd.l1 k2 a0 a1 (y140++ [(([wrap64 ((wrap64 (a1*x6_1))+x7_2),wrap64 ((wrap64 ((wrap64 (a1*x6_1))+x7_2))+1)] :List Int))]) x6_1 (wrap64 (x7_2+1))) else (none)) else (Qbd.l1 k2 a0 a1 y140 x6_1 (wrap64 (x7_2+1))))=some r:=by first|(rw [hy140];with_reducible exact H)|(have H2_:=(Option.bind_some _ _).symm.trans H;rw [hy140];with_reducible exact H2_)|(have H2_:=(Option.bind_some _ _).symm.trans H;with_reducible exact H2_)|with_reducible exact H|(rw [hy140];exact H)|exact H
         have Ny140:=Aside0.mk hy140;clear hy140
         by_cases c8:(wrap64 (x7_2+1))<a1
         ·
          rw [if_pos c8] at H;have c8b0:=decide_eq_true c8;clear c8;obtain ⟨y143,hy143⟩: ∃ y_:List Int,y_=(([wrap64 ((wrap64 (a1*x6_1))+x7_2),wrap64 ((wrap64 ((wrap64 (a1*x6_1))+x7_2))+1)] :List Int)):=⟨_,rfl⟩
          replace H:(if y140.length<5864062014805 then (Qbd.l1 k2 a0 a1 (y140++ [y143]) x6_1 (wrap64 (x7_2+1))) else (none))=some r:=by first|(rw [hy143];with_reducible exact H)|(have H2_:=(Option.bind_some _ _).symm.trans H;rw [hy143];with_reducible exact H2_)|(have H2_:=(Option.bind_some _ _).symm.trans H;with_reducible exact H2_)|with_reducible exact H|(rw [hy143];exact H)|exact H
          have Ny143:=Aside0.mk hy143;clear hy143
          by_cases c9:y140.length<5864062014805
          ·
           rw [if_pos c9] at H;have LMc9:=Aside0.mk c9;clear c9;obtain ⟨y146,hy146⟩: ∃ y_:List (List Int),y_=(y140++ [y143]):=⟨_,rfl⟩
           replace H:(Qbd.l1 k2 a0 a1 y146 x6_1 (wrap64 (x7_2+1)))=some r:=by first|(rw [hy146];with_reducible exact H)|(have H2_:=(Option.bind_some _ _).symm.trans H;rw [hy146];with_reducible exact H2_)|(have H2_:=(Option.bind_some _ _).symm.trans H;with_reducible exact H2_)|with_reducible exact H|(rw [hy146];exact H)|exact H
           have Ny146:=Aside0.mk hy146;clear hy146;have H':=Aside0.mk H;clear H;go_wp2_with (first|((with_reducible refine Qc0 (N:=35) rfl ?_);refine Kd.R_lit (Kd.int .i64) _ 3 ?hg (N:=35) ?hd (xs:=([wrap64 ((wrap64 (a1*x6_1))+x7_2),wrap64 ((wrap64 ((wrap64 (a1*x6_1))+a1))+x7_2)] :List Int)) (inner:= [.int .i64 (wrap64 ((wrap64 (a1*x6_1))+x7_2)), .int .i64 (wrap64 ((wrap64 ((wrap64 (a1*x6_1))+a1))+x7_2))]) (ok:=fun _=>True) (okp:=fun _=>True) ?hr ?hp (fun _ hk=>hk) trivial (Below.refl _ _) (Nat.le_refl _) (by simp) ?_;(case hd=>rfl);(case hg=>rfl);(case hr=>first|(go_simp;done)|(go_simp;rfl));(case hp=>exact (Reps.one (show Kd.M (Kd.int .i64) _ _ _ (wrap64 ((wrap64 (a1*x6_1))+x7_2)) [.int .i64 (wrap64 ((wrap64 (a1*x6_1))+x7_2))] from rfl) (Reps.one (show Kd.M (Kd.int .i64) _ _ _ (wrap64 ((wrap64 ((wrap64 (a1*x6_1))+a1))+x7_2)) [.int .i64 (wrap64 ((wrap64 ((wrap64 (a1*x6_1))+a1))+x7_2))] from rfl) (Reps.none _ _))));intro v138 w10 ho11 hb hg_ hnew_;clear hg_ hnew_;(first|rw [←Ny137.out] at ho11|(simp only [Int.reduceToNat] at ho11;rw [←Ny137.out] at ho11));replace HO_5:=Aside0.mk (Kd.S_elder' (uS HO_5) (Kd.R_base ho11) hb);have HO139:=Aside0.mk (Kd.R_lower ho11 (Qp (uB HB)));replace BK133:=Aside0.mk (Qc (uK BK133) hb);replace HB:=Aside0.mk (Qa (uB HB) hb);clear hb ho11;obtain ⟨Ao13,co13,eo13⟩:=Kd.R_slice HO139.out;subst eo13)|((with_reducible refine Qc4 (b:= .append) (xs:= #[.tmp 22, .tmp 36]) rfl ?_);at_builtin;refine Kd.S_append (Kd.slice 3 (Kd.int .i64)) (w0:=w) w.heap.size rfl (.tmp 22) (.tmp 36) 40 24 (.slice none 0 0) 24 rfl Tryz.underlying40 Qfw rfl (by decide) (by omega) u5 x5_2 y137 [.slice Ao13 y137.length co13] (fun _=>True) (fun k_=>some k_=(.slice Ao13 y137.length co13:Value).ownBlock) rfl rfl ?aP (fun k_ hk_=>((Kd.R_mono (ok':=fun k_=>((fun _=>True)) k_∧some k_≠(u5:Value).ownBlock) (Kd.R_apart' (HO139.out) (Kd.S_typed HO_5.out) (by decide)) (fun k_ hk=>⟨trivial,hk.2⟩))).1 k_ hk_.symm) ?aF ?aO ?aB ?aS ?aL ?_;(case aP=>exact Kd.M_row (Kd.R_mono (Kd.R_tight rfl (Kd.R_mono (ok':=fun k_=>((fun _=>True)) k_∧some k_≠(u5:Value).ownBlock) (Kd.R_apart' (HO139.out) (Kd.S_typed HO_5.out) (by decide)) (fun k_ hk=>⟨trivial,hk.2⟩))) (fun _ h_=>h_)));(case aB=>exact (uB HB));(case aF=>exact (fun _ _=>trivial));(case aO=>exact (by (with_reducible repeat (first|apply Kd.S_alloc|apply Kd.S_drewN|apply Kd.S_drew));exact Kd.S_mono HO_5.out (fun k_ hk=>⟨trivial,fun e_=>hk.2 e_⟩)));(case aS=>exact (Qp (uB HB)));(case aL=>have:=LMc7.out;omega);intro v141 w12 ho hb hg hat;rw [←Ny140.out] at ho;replace BK133:=Aside0.mk (Qds (uK BK133) hg (Kd.S_ne HO_5.out BK133.out (by decide)));replace HB:=Aside0.mk (hb);have HO142:=Aside0.mk (ho);clear HO_5 HO139;clear ho hb hg hat)|((with_reducible refine Qc0 (N:=54) rfl ?_);refine Kd.R_lit (Kd.int .i64) _ 3 ?hg (N:=54) ?hd (xs:=([wrap64 ((wrap64 (a1*x6_1))+x7_2),wrap64 ((wrap64 ((wrap64 (a1*x6_1))+x7_2))+1)] :List Int)) (inner:= [.int .i64 (wrap64 ((wrap64 (a1*x6_1))+x7_2)), .int .i64 (wrap64 ((wrap64 ((wrap64 (a1*x6_1))+x7_2))+1))]) (ok:=fun _=>True) (okp:=fun _=>True) ?hr ?hp (fun _ hk=>hk) trivial (Below.refl _ _) (Nat.le_refl _) (by simp) ?_;(case hd=>rfl);(case hg=>rfl);(case hr=>first|(go_simp;done)|(go_simp;rfl));(case hp=>exact (Reps.one (show Kd.M (Kd.int .i64) _ _ _ (wrap64 ((wrap64 (a1*x6_1))+x7_2)) [.int .i64 (wrap64 ((wrap64 (a1*x6_1))+x7_2))] from rfl) (Reps.one (show Kd.M (Kd.int .i64) _ _ _ (wrap64 ((wrap64 ((wrap64 (a1*x6_1))+x7_2))+1)) [.int .i64 (wrap64 ((wrap64 ((wrap64 (a1*x6_1))+x7_2))+1))] from rfl) (Reps.none _ _))));intro v144 w14 ho15 hb hg_ hnew_;clear hg_ hnew_;(first|rw [←Ny143.out] at ho15|(simp only [Int.reduceToNat] at ho15;rw [←Ny143.out] at ho15));replace HO142:=Aside0.mk (Kd.S_elder' (uS HO142) (Kd.R_base ho15) hb);have HO145:=Aside0.mk (Kd.R_lower ho15 (Qp (uB HB)));replace BK133:=Aside0.mk (Qc (uK BK133) hb);replace HB:=Aside0.mk (Qa (uB HB) hb);clear hb ho15;obtain ⟨Ao17,co17,eo17⟩:=Kd.R_slice HO145.out;subst eo17)|((with_reducible refine Qc4 (b:= .append) (xs:= #[.tmp 42, .tmp 55]) rfl ?_);at_builtin;refine Kd.S_append (Kd.slice 3 (Kd.int .i64)) (w0:=w) w.heap.size rfl (.tmp 42) (.tmp 55) 40 24 (.slice none 0 0) 24 rfl Tryz.underlying40 Qfw rfl (by decide) (by omega) v141 y140 y143 [.slice Ao17 y143.length co17] (fun _=>True) (fun k_=>some k_=(.slice Ao17 y143.length co17:Value).ownBlock) rfl rfl ?aP (fun k_ hk_=>((Kd.R_mono (ok':=fun k_=>((fun _=>True)) k_∧some k_≠(v141:Value).ownBlock) (Kd.R_apart' (HO145.out) (Kd.S_typed HO142.out) (by decide)) (fun k_ hk=>⟨trivial,hk.2⟩))).1 k_ hk_.symm) ?aF ?aO ?aB ?aS ?aL ?_;(case aP=>exact Kd.M_row (Kd.R_mono (Kd.R_tight rfl (Kd.R_mono (ok':=fun k_=>((fun _=>True)) k_∧some k_≠(v141:Value).ownBlock) (Kd.R_apart' (HO145.out) (Kd.S_typed HO142.out) (by decide)) (fun k_ hk=>⟨trivial,hk.2⟩))) (fun _ h_=>h_)));(case aB=>exact (uB HB));(case aF=>exact (fun _ _=>trivial));(case aO=>exact (by (with_reducible repeat (first|apply Kd.S_alloc|apply Kd.S_drewN|apply Kd.S_drew));exact Kd.S_mono HO142.out (fun k_ hk=>⟨trivial,fun e_=>hk.2 e_⟩)));(case aS=>exact (Qp (uB HB)));(case aL=>have:=LMc9.out;omega);intro v147 w16 ho hb hg hat;rw [←Ny146.out] at ho;replace BK133:=Aside0.mk (Qds (uK BK133) hg (Kd.S_ne HO142.out BK133.out (by decide)));replace HB:=Aside0.mk (hb);have HO148:=Aside0.mk (ho);clear HO142 HO145;clear ho hb hg hat))
           go_roundg k2
           case measure=>have:=HK1.out;have:=HK2.out;omega
           case rel=>exact ⟨(y146),(wrap64 (x7_2+1)),(by first|rfl|(simp;done)|(simp [*];done)),H',⟨by have:=HK1.out;have:=HK2.out;omega⟩,⟨uS HO148⟩,⟨uK BK133⟩,⟨uB HB⟩⟩
          ·
           rw [if_neg c9] at H;exact absurd H (by simp)
         ·
          rw [if_neg c8] at H;have c8b0:=decide_eq_false c8;clear c8;have H':=Aside0.mk H;clear H;go_wp2_with (first|((with_reducible refine Qc0 (N:=35) rfl ?_);refine Kd.R_lit (Kd.int .i64) _ 3 ?hg (N:=35) ?hd (xs:=([wrap64 ((wrap64 (a1*x6_1))+x7_2),wrap64 ((wrap64 ((wrap64 (a1*x6_1))+a1))+x7_2)] :List Int)) (inner:= [.int .i64 (wrap64 ((wrap64 (a1*x6_1))+x7_2)), .int .i64 (wrap64 ((wrap64 ((wrap64 (a1*x6_1))+a1))+x7_2))]) (ok:=fun _=>True) (okp:=fun _=>True) ?hr ?hp (fun _ hk=>hk) trivial (Below.refl _ _) (Nat.le_refl _) (by simp) ?_;(case hd=>rfl);(case hg=>rfl);(case hr=>first|(go_simp;done)|(go_simp;rfl));(case hp=>exact (Reps.one (show Kd.M (Kd.int .i64) _ _ _ (wrap64 ((wrap64 (a1*x6_1))+x7_2)) [.int .i64 (wrap64 ((wrap64 (a1*x6_1))+x7_2))] from rfl) (Reps.one (show Kd.M (Kd.int .i64) _ _ _ (wrap64 ((wrap64 ((wrap64 (a1*x6_1))+a1))+x7_2)) [.int .i64 (wrap64 ((wrap64 ((wrap64 (a1*x6_1))+a1))+x7_2))] from rfl) (Reps.none _ _))));intro v138 w18 ho19 hb hg_ hnew_;clear hg_ hnew_;(first|rw [←Ny137.out] at ho19|(simp only [Int.reduceToNat] at ho19;rw [←Ny137.out] at ho19));replace HO_5:=Aside0.mk (Kd.S_elder' (uS HO_5) (Kd.R_base ho19) hb);have HO139:=Aside0.mk (Kd.R_lower ho19 (Qp (uB HB)));replace BK133:=Aside0.mk (Qc (uK BK133) hb);replace HB:=Aside0.mk (Qa (uB HB) hb);clear hb ho19;obtain ⟨Ao21,co21,eo21⟩:=Kd.R_slice HO139.out;subst eo21)|((with_reducible refine Qc4 (b:= .append) (xs:= #[.tmp 22, .tmp 36]) rfl ?_);at_builtin;refine Kd.S_append (Kd.slice 3 (Kd.int .i64)) (w0:=w) w.heap.size rfl (.tmp 22) (.tmp 36) 40 24 (.slice none 0 0) 24 rfl Tryz.underlying40 Qfw rfl (by decide) (by omega) u5 x5_2 y137 [.slice Ao21 y137.length co21] (fun _=>True) (fun k_=>some k_=(.slice Ao21 y137.length co21:Value).ownBlock) rfl rfl ?aP (fun k_ hk_=>((Kd.R_mono (ok':=fun k_=>((fun _=>True)) k_∧some k_≠(u5:Value).ownBlock) (Kd.R_apart' (HO139.out) (Kd.S_typed HO_5.out) (by decide)) (fun k_ hk=>⟨trivial,hk.2⟩))).1 k_ hk_.symm) ?aF ?aO ?aB ?aS ?aL ?_;(case aP=>exact Kd.M_row (Kd.R_mono (Kd.R_tight rfl (Kd.R_mono (ok':=fun k_=>((fun _=>True)) k_∧some k_≠(u5:Value).ownBlock) (Kd.R_apart' (HO139.out) (Kd.S_typed HO_5.out) (by decide)) (fun k_ hk=>⟨trivial,hk.2⟩))) (fun _ h_=>h_)));(case aB=>exact (uB HB));(case aF=>exact (fun _ _=>trivial));(case aO=>exact (by (with_reducible repeat (first|apply Kd.S_alloc|apply Kd.S_drewN|apply Kd.S_drew));exact Kd.S_mono HO_5.out (fun k_ hk=>⟨trivial,fun e_=>hk.2 e_⟩)));(case aS=>exact (Qp (uB HB)));(case aL=>have:=LMc7.out;omega);intro v141 w20 ho hb hg hat;rw [←Ny140.out] at ho;replace BK133:=Aside0.mk (Qds (uK BK133) hg (Kd.S_ne HO_5.out BK133.out (by decide)));replace HB:=Aside0.mk (hb);have HO142:=Aside0.mk (ho);clear HO_5 HO139;clear ho hb hg hat));go_roundg k2
          case measure=>have:=HK1.out;have:=HK2.out;omega
          case rel=>exact ⟨(y140),(wrap64 (x7_2+1)),(by first|rfl|(simp;done)|(simp [*];done)),H',⟨by have:=HK1.out;have:=HK2.out;omega⟩,⟨uS HO142⟩,⟨uK BK133⟩,⟨uB HB⟩⟩
        ·
         rw [if_neg c7] at H;exact absurd H (by simp)
       ·
        rw [if_neg c6] at H;have c6b0:=decide_eq_false c6;clear c6
        by_cases c22:(wrap64 (x7_2+1))<a1
        ·
         rw [if_pos c22] at H;have c22b0:=decide_eq_true c22;clear c22;obtain ⟨y149,hy149⟩: ∃ y_:List Int,y_=(([wrap64 ((wrap64 (a1*x6_1))+x7_2),wrap64 ((wrap64 ((wrap64 (a1*x6_1))+x7_2))+1)] :List Int)):=⟨_,rfl⟩
         replace H:(if x5_2.length<5864062014805 then (Qbd.l1 k2 a0 a1 (x5_2++ [y149]) x6_1 (wrap64 (x7_2+1))) else (none))=some r:=by first|(rw [hy149];with_reducible exact H)|(have H2_:=(Option.bind_some _ _).symm.trans H;rw [hy149];with_reducible exact H2_)|(have H2_:=(Option.bind_some _ _).symm.trans H;with_reducible exact H2_)|with_reducible exact H|(rw [hy149];exact H)|exact H
         have Ny149:=Aside0.mk hy149;clear hy149
         by_cases c23:x5_2.length<5864062014805
         ·
          rw [if_pos c23] at H;have LMc23:=Aside0.mk c23;clear c23;obtain ⟨y152,hy152⟩: ∃ y_:List (List Int),y_=(x5_2++ [y149]):=⟨_,rfl⟩
          replace H:(Qbd.l1 k2 a0 a1 y152 x6_1 (wrap64 (x7_2+1)))=some r:=by first|(rw [hy152];with_reducible exact H)|(have H2_:=(Option.bind_some _ _).symm.trans H;rw [hy152];with_reducible exact H2_)|(have H2_:=(Option.bind_some _ _).symm.trans H;with_reducible exact H2_)|with_reducible exact H|(rw [hy152];exact H)|exact H
          have Ny152:=Aside0.mk hy152;clear hy152;have H':=Aside0.mk H;clear H;go_wp2_with (first|((with_reducible refine Qc0 (N:=54) rfl ?_);refine Kd.R_lit (Kd.int .i64) _ 3 ?hg (N:=54) ?hd (xs:=([wrap64 ((wrap64 (a1*x6_1))+x7_2),wrap64 ((wrap64 ((wrap64 (a1*x6_1))+x7_2))+1)] :List Int)) (inner:= [.int .i64 (wrap64 ((wrap64 (a1*x6_1))+x7_2)), .int .i64 (wrap64 ((wrap64 ((wrap64 (a1*x6_1))+x7_2))+1))]) (ok:=fun _=>True) (okp:=fun _=>True) ?hr ?hp (fun _ hk=>hk) trivial (Below.refl _ _) (Nat.le_refl _) (by simp) ?_;(case hd=>rfl);(case hg=>rfl);(case hr=>first|(go_simp;done)|(go_simp;rfl));(case hp=>exact (Reps.one (show Kd.M (Kd.int .i64) _ _ _ (wrap64 ((wrap64 (a1*x6_1))+x7_2)) [.int .i64 (wrap64 ((wrap64 (a1*x6_1))+x7_2))] from rfl) (Reps.one (show Kd.M (Kd.int .i64) _ _ _ (wrap64 ((wrap64 ((wrap64 (a1*x6_1))+x7_2))+1)) [.int .i64 (wrap64 ((wrap64 ((wrap64 (a1*x6_1))+x7_2))+1))] from rfl) (Reps.none _ _))));intro v150 w24 ho25 hb hg_ hnew_;clear hg_ hnew_;(first|rw [←Ny149.out] at ho25|(simp only [Int.reduceToNat] at ho25;rw [←Ny149.out] at ho25));replace HO_5:=Aside0.mk (Kd.S_elder' (uS HO_5) (Kd.R_base ho25) hb);have HO151:=Aside0.mk (Kd.R_lower ho25 (Qp (uB HB)));replace BK133:=Aside0.mk (Qc (uK BK133) hb);replace HB:=Aside0.mk (Qa (uB HB) hb);clear hb ho25;obtain ⟨Ao27,co27,eo27⟩:=Kd.R_slice HO151.out;subst eo27)|((with_reducible refine Qc4 (b:= .append) (xs:= #[.tmp 42, .tmp 55]) rfl ?_);at_builtin;refine Kd.S_append (Kd.slice 3 (Kd.int .i64)) (w0:=w) w.heap.size rfl (.tmp 42) (.tmp 55) 40 24 (.slice none 0 0) 24 rfl Tryz.underlying40 Qfw rfl (by decide) (by omega) u5 x5_2 y149 [.slice Ao27 y149.length co27] (fun _=>True) (fun k_=>some k_=(.slice Ao27 y149.length co27:Value).ownBlock) rfl rfl ?aP (fun k_ hk_=>((Kd.R_mono (ok':=fun k_=>((fun _=>True)) k_∧some k_≠(u5:Value).ownBlock) (Kd.R_apart' (HO151.out) (Kd.S_typed HO_5.out) (by decide)) (fun k_ hk=>⟨trivial,hk.2⟩))).1 k_ hk_.symm) ?aF ?aO ?aB ?aS ?aL ?_;(case aP=>exact Kd.M_row (Kd.R_mono (Kd.R_tight rfl (Kd.R_mono (ok':=fun k_=>((fun _=>True)) k_∧some k_≠(u5:Value).ownBlock) (Kd.R_apart' (HO151.out) (Kd.S_typed HO_5.out) (by decide)) (fun k_ hk=>⟨trivial,hk.2⟩))) (fun _ h_=>h_)));(case aB=>exact (uB HB));(case aF=>exact (fun _ _=>trivial));(case aO=>exact (by (with_reducible repeat (first|apply Kd.S_alloc|apply Kd.S_drewN|apply Kd.S_drew));exact Kd.S_mono HO_5.out (fun k_ hk=>⟨trivial,fun e_=>hk.2 e_⟩)));(case aS=>exact (Qp (uB HB)));(case aL=>have:=LMc23.out;omega);intro v153 w26 ho hb hg hat;rw [←Ny152.out] at ho;replace BK133:=Aside0.mk (Qds (uK BK133) hg (Kd.S_ne HO_5.out BK133.out (by decide)));replace HB:=Aside0.mk (hb);have HO154:=Aside0.mk (ho);clear HO_5 HO151;clear ho hb hg hat));go_roundg k2
          case measure=>have:=HK1.out;have:=HK2.out;omega
          case rel=>exact ⟨(y152),(wrap64 (x7_2+1)),(by first|rfl|(simp;done)|(simp [*];done)),H',⟨by have:=HK1.out;have:=HK2.out;omega⟩,⟨uS HO154⟩,⟨uK BK133⟩,⟨uB HB⟩⟩
         ·
          rw [if_neg c23] at H;exact absurd H (by simp)
        ·
         rw [if_neg c22] at H;have c22b0:=decide_eq_false c22;clear c22;have H':=Aside0.mk H;clear H;go_wp2;go_roundg k2
         case measure=>have:=HK1.out;have:=HK2.out;omega
         case rel=>exact ⟨(x5_2),(wrap64 (x7_2+1)),(by first|rfl|(simp;done)|(simp [*];done)),H',⟨by have:=HK1.out;have:=HK2.out;omega⟩,⟨uS HO_5⟩,⟨uK BK133⟩,⟨uB HB⟩⟩
      ·
       rw [if_neg c5] at H;have c5b0:=decide_eq_false c5;clear c5;have H':=Aside0.mk H;clear H;go_wp2;go_roundg k2
       case measure=>have:=HK1.out;have:=HK2.out;omega
       case rel=>exact ⟨(x5_2),(wrap64 (x6_1+1)),(by first|rfl|(simp;done)|(simp [*];done)),H',⟨by have:=HK1.out;have:=HK2.out;omega⟩,⟨uS HO_5⟩,⟨uK BK133⟩,⟨uB HB⟩⟩
   ·
    rw [if_neg c4] at H;have c4b0:=decide_eq_false c4;clear c4;obtain ⟨t134,A28,H⟩:=bs H;(try dsimp only at H)
    obtain rfl:=Option.some.inj H;obtain ⟨Ao29,co29,eo29⟩:=Kd.S_slice HO_5.out;subst eo29;go_wp2_with (first|(refine gA (some 61) Tryz.func163 #[.int .i64 (wrap64 (a0*a1)), .slice Ao29 x5_1.length co29] ?_;(with_reducible refine (Qbg.calls k1 (wrap64 (a0*a1)) _ _ x5_1 t134 _ ?side1 ?side2 A28.out).mono ?_);(case side1=>repeat (first|exact (Kd.S_reads' HO_5.out).2.2|(with_reducible refine Kd.C_alloc ?_ _)|(with_reducible refine Kd.C_drewN ?_ _)|(with_reducible refine Kd.C_drew ?_)));(case side2=>exact (Kd.S_reads' HO_5.out).2.1);rintro e w30 ⟨v135,rfl,ho0,hb⟩;refine ⟨_,rfl,?_⟩;replace HO_5:=Aside0.mk (Kd.S_elder' (uS HO_5) (Kd.R_base ho0) hb);have HO136:=Aside0.mk (Kd.R_lower ho0 (Qp (uB HB)));replace BK133:=Aside0.mk (Qc (uK BK133) hb);replace HB:=Aside0.mk (Qa (uB HB) hb);(try clear hb ho0);obtain ⟨Ao31,co31,eo31⟩:=Kd.R_slice HO136.out;subst eo31;have hcz32_0:=bC BK133;have hfz32_0:=Qf BK133.out 0));refine bodyPost_ret (results_cell_row rfl _ _ gb133 26 #[.slice Ao31 t134.length co31] (0,0) _ rfl (by (with_reducible repeat (first|refine Qk ?_ _|refine Qj ?_|refine Qi ?_ _));refine Qcs (cs:= #[.slice none 0 0]) ?_ 0 _ rfl;(with_reducible repeat (first|refine Qk ?_ _|refine Qj ?_|refine Qi ?_ _));exact BK133.out) Tryz.underlying26 rfl (by kernel_rfl)) rfl ?_;exact ⟨_,by first|rfl|(simp [Qd,Qe] <;>rfl)|(simp [*,Qd,Qe] <;>rfl),by (with_reducible repeat (first|apply Kd.R_alloc|apply Kd.R_drewN|apply Kd.R_drew));exact Kd.R_mono (Kd.R_far (p:=⟨gb133,0,none⟩) (Kd.R_types HO136.out BK133.out (by decide)) (fun _ hk=>hk.2) (.slice Ao31 t134.length co31)) (fun _ hk=>trivial),by repeat (first|(with_reducible first|exact HB.out|apply Qo|apply Qq|apply Qy|refine Q4 ?_ GE133.out)|exact HB.out)⟩
end Go.Proofs.YtkgngggppcmpfaaGreat.L
end
section
namespace Go.Proofs.YtkgngggppcmpfaaGreat.L
open Go.RowKit Go.Proofs.YtkgngggppcmpfaaGreatW.PrintWords Go.Proofs.YtkgngggppcmpfaaGreatW.PrintLast Go.Proofs.YtkgngggppcmpfaaGreatW.PrintMore
attribute [local go_sem] Qt Qv Q2 Q3 Qm Qn Qu Qw
set_option linter.unusedVariables false
set_option linter.unusedSimpArgs false
def Qed.f (a0 : Int) (a1 : Int) : Option (Int) := if a0 > a1 then (some a0) else (some a1)
set_option maxHeartbeats 8000000 in
set_option maxRecDepth 100000 in
theorem Qed.calls (a0 : Int) (a1 : Int) (r : Int) (w : World) (h : Qed.f a0 a1 = some r) :
 Calls Tryz.prog 332 #[.int .i64 a0, .int .i64 a1] w fun e w'=>e= .returned (.int .i64 r)∧Drawn0 w w':=by
 have H:(if a0>a1 then (some a0) else (some a1))=some r:=h;clear h
 by_cases c3:a0>a1
 ·
  rw [if_pos c3] at H;have c3b0:=decide_eq_true c3;clear c3;obtain rfl:=Option.some.inj H;go_enter Tryz.func332,Tryz.ntmps332;go_wp2
  go_ret
  exact ⟨by first|rfl|(simp;done)|(simp [*];done),by repeat (first|exact Drawn0.refl _|apply Drawn0.step)⟩
 ·
  rw [if_neg c3] at H;have c3b0:=decide_eq_false c3;clear c3;obtain rfl:=Option.some.inj H;go_enter Tryz.func332,Tryz.ntmps332;go_wp2
  go_ret
  exact ⟨by first|rfl|(simp;done)|(simp [*];done),by repeat (first|exact Drawn0.refl _|apply Drawn0.step)⟩
end Go.Proofs.YtkgngggppcmpfaaGreat.L
end
section
namespace Go.Proofs.YtkgngggppcmpfaaGreat.L
open Go.RowKit Go.Proofs.YtkgngggppcmpfaaGreatW.PrintWords Go.Proofs.YtkgngggppcmpfaaGreatW.PrintLast Go.Proofs.YtkgngggppcmpfaaGreatW.PrintMore Go.Proofs.YtkgngggppcmpfaaGreat.X
attribute [local go_sem] Qt Qv Q2 Q3 Qm Qn Qu Qw
set_option linter.unusedVariables false
set_option linter.unusedSimpArgs false
def Qcm.l0 : Nat → Int → Int → List (List Int) → Int → Option (List Int × Bool)
 |0,_,_,_,_=>none
 |k+1,x0,x4,x5,x6=>if (wrap64 (x4+x6))<x0 then (if x5.length<5864062014805 then ((some (x5++ [(([x6,wrap64 (x4+x6)] :List Int))] :List (List Int))).bind fun y160=>(if (wrap64 (x6+1))<x4 then (if y160.length<5864062014805 then (Qcm.l0 k x0 x4 (y160++ [(([wrap64 (x6+1),wrap64 (x4+x6)] :List Int))]) (wrap64 (x6+1))) else (none)) else (Qcm.l0 k x0 x4 y160 (wrap64 (x6+1))))) else (none)) else ((Qbg.f k x0 x5).bind fun t169=>(some (t169,true)))
def Qcm.f (k : Nat) (a0 : Int) : Option (List Int × Bool) := (Qde.f a0 1 10).bind fun t156 => (if t156 = true then (Qcm.l0 k a0 (wrap64 (Int.tdiv (wrap64 (a0 + 1)) 2)) ([] : List (List Int)) 0) else (some (([] : List Int), false)))
theorem Qcm.mono_l : ∀ k, (∀ y0 y1 y2 y3, LeO (Qcm.l0 k y0 y1 y2 y3) (Qcm.l0 (k + 1) y0 y1 y2 y3))
 |0=>fun _ _ _ _ r h=>by simp [Qcm.l0] at h
 |k+1=>by
  have ih0:=Qcm.mono_l k
  ·
   intro y0 y1 y2 y3;unfold Qcm.l0
   repeat' first
   |(with_reducible exact ih0 _ _ _ _)
   |(with_reducible exact Qbg.mono _ _ _)
   |(with_reducible exact LeO.refl _)
   |(with_reducible exact LeO.none _)
   |(with_reducible refine LeO.ite ?_ ?_)
   |(with_reducible refine LeO.bind ?_ (fun _=> ?_))
   |exact ih0 _ _ _ _
   |exact Qbg.mono _ _ _
   |exact LeO.none _
   |refine LeO.ite ?_ ?_
   |refine LeO.bind ?_ (fun _=> ?_)
theorem Qcm.mono : ∀ a0 k, LeO (Qcm.f k a0) (Qcm.f (k + 1) a0) := by
 intro a0 k;have ih0:=Qcm.mono_l k;unfold Qcm.f
 repeat' (with_reducible first|apply ih0|apply Qbg.mono|exact LeO.refl _|exact LeO.none _|refine LeO.ite ?_ ?_|refine LeO.bind ?_ (fun _=> ?_))
set_option maxHeartbeats 8000000 in
set_option maxRecDepth 100000 in
theorem Qcm.calls (k : Nat) (a0 : Int) (r1 : List Int) (r2 : Bool) (w : World) (h : Qcm.f k a0 = some (r1, r2)) :
 Calls Tryz.prog 336 #[.int .i64 a0] w fun e w'=> ∃ v0_:Value,e= .returned (.tuple #[.agg #[v0_], .bool r2])∧Kd.R (Kd.int .i64) 3 w' w.heap.size (fun _=>True) v0_ r1∧Below w.heap.size w w':=by
 have hu26:=Tryz.underlying26;have HB:=Aside0.mk (Below.refl w.heap.size w);have H:((Qde.f a0 1 10).bind fun t156=>(if t156=true then (Qcm.l0 k a0 (wrap64 (Int.tdiv (wrap64 (a0+1)) 2)) ([] :List (List Int)) 0) else (some (([] :List Int),false))))=some (r1,r2):=h;clear h;obtain ⟨t156,A2,H⟩:=bs H;(try dsimp only at H)
 by_cases c3:t156=true
 ·
  subst c3;rw [if_pos rfl] at H;have H':=Aside0.mk H;clear H;go_enter Tryz.func336,Tryz.ntmps336;go_wp2_with (first|(refine bE (N:=2) (cs:= #[.slice none 0 0]) (t:=26) ?_;intro gb155 hg w4 hbox hb;have BK155:=Aside0.mk (hbox);have GW155:=Aside0.mk ((gV hg (uB HB)));have GE155:=GW155;replace HB:=Aside0.mk (Qa (uB HB) hb);clear hb hbox hg)|(refine gA (some 8) Tryz.func192 #[.int .i64 a0, .int .i64 1, .int .i64 10] ?_;(with_reducible refine (Qde.calls a0 1 10 true _ A2.out).mono ?_);rintro e w' ⟨rfl,⟨nd,rfl⟩⟩;refine ⟨_,rfl,?_⟩))
  go_loopg [5,6] k (fun kq v5 v6 w'=> ∃ (x5_1:List (List Int)) (x6_1:Int),v6= .int .i64 x6_1∧Aside0 (Qcm.l0 kq a0 (wrap64 (Int.tdiv (wrap64 (a0+1)) 2)) x5_1 x6_1=some (r1,r2))∧Aside0 (kq≤k)∧Aside0 (Kd.S (Kd.slice 3 (Kd.int .i64)) 24 w' w.heap.size (fun _=>True) v5 x5_1)∧Aside0 (w'.heap[gb155]? =some (.cells #[(.slice none 0 0)] 26 (0,0)))∧Aside0 (Below w.heap.size w w'))
  case atStart=>exact ⟨(([] :List (List Int))),(0),(by first|rfl|(simp;done)|(simp [*];done)),H',⟨Nat.le_refl _⟩,⟨by first|exact Kd.S_nil _ _ _ _ _|exact Kd.N_nil _ _ _ _ _|exact Kd.V_nil _ _ _ _ _|exact Kd.Q_nil _ _ _ _ _|exact Kd.R_nil _ _ _ _ _⟩,⟨uK BK155⟩,⟨uB HB⟩⟩
  case round=>
   clear H'
   try clear c1
   try clear p2
   try clear c3
   obtain ⟨x5_1,x6_1,rfl,HA,HK1,HO_5,BK155,HB⟩:=hrel;cases gk with
   |zero=>exact absurd HA.out (by simp [Qcm.l0])
   |succ k1=>
    have H:=HA.out;clear HA;simp only [Qcm.l0] at H
    by_cases c5:(wrap64 ((wrap64 (Int.tdiv (wrap64 (a0+1)) 2))+x6_1))<a0
    ·
     rw [if_pos c5] at H;have c5b0:=decide_eq_true c5;clear c5;obtain ⟨y157,hy157⟩: ∃ y_:List Int,y_=(([x6_1,wrap64 ((wrap64 (Int.tdiv (wrap64 (a0+1)) 2))+x6_1)] :List Int)):=⟨_,rfl⟩
     replace H:(if x5_1.length<5864062014805 then ((some (x5_1++ [y157] :List (List Int))).bind fun y160=>(if (wrap64 (x6_1+1))<(wrap64 (Int.tdiv (wrap64 (a0+1)) 2)) then (if y160.length<5864062014805 then (Qcm.l0 k1 a0 (wrap64 (Int.tdiv (wrap64 (a0+1)) 2)) (y160++ [(([wrap64 (x6_1+1),wrap64 ((wrap64 (Int.tdiv (wrap64 (a0+1)) 2))+x6_1)] :List Int))]) (wrap64 (x6_1+1))) else (none)) else (Qcm.l0 k1 a0 (wrap64 (Int.tdiv (wrap64 (a0+1)) 2)) y160 (wrap64 (x6_1+1))))) else (none))=some (r1,r2):=by first|(rw [hy157];with_reducible exact H)|(have H2_:=(Option.bind_some _ _).symm.trans H;rw [hy157];with_reducible exact H2_)|(have H2_:=(Option.bind_some _ _).symm.trans H;with_reducible exact H2_)|with_reducible exact H|(rw [hy157];exact H)|exact H
     have Ny157:=Aside0.mk hy157;clear hy157
     by_cases c6:x5_1.length<5864062014805
     ·
      rw [if_pos c6] at H;have LMc6:=Aside0.mk c6;clear c6;obtain ⟨y160,hy160⟩: ∃ y_:List (List Int),y_=(x5_1++ [y157]):=⟨_,rfl⟩
      replace H:(if (wrap64 (x6_1+1))<(wrap64 (Int.tdiv (wrap64 (a0+1)) 2)) then (if y160.length<5864062014805 then (Qcm.l0 k1 a0 (wrap64 (Int.tdiv (wrap64 (a0+1)) 2)) (y160++ [(([wrap64 (x6_1+1),wrap64 ((wrap64 (Int.tdiv (wrap64 (a0+1)) 2))+x6_1)] :List Int))]) (wrap64 (x6_1+1))) else (none)) else (Qcm.l0 k1 a0 (wrap64 (Int.tdiv (wrap64 (a0+1)) 2)) y160 (wrap64 (x6_1+1))))=some (r1,r2):=by first|(rw [hy160];with_reducible exact H)|(have H2_:=(Option.bind_some _ _).symm.trans H;rw [hy160];with_reducible exact H2_)|(have H2_:=(Option.bind_some _ _).symm.trans H;with_reducible exact H2_)|with_reducible exact H|(rw [hy160];exact H)|exact H
      have Ny160:=Aside0.mk hy160;clear hy160
      by_cases c7:(wrap64 (x6_1+1))<(wrap64 (Int.tdiv (wrap64 (a0+1)) 2))
      ·
       rw [if_pos c7] at H;have c7b0:=decide_eq_true c7;clear c7;obtain ⟨y163,hy163⟩: ∃ y_:List Int,y_=(([wrap64 (x6_1+1),wrap64 ((wrap64 (Int.tdiv (wrap64 (a0+1)) 2))+x6_1)] :List Int)):=⟨_,rfl⟩
       replace H:(if y160.length<5864062014805 then (Qcm.l0 k1 a0 (wrap64 (Int.tdiv (wrap64 (a0+1)) 2)) (y160++ [y163]) (wrap64 (x6_1+1))) else (none))=some (r1,r2):=by first|(rw [hy163];with_reducible exact H)|(have H2_:=(Option.bind_some _ _).symm.trans H;rw [hy163];with_reducible exact H2_)|(have H2_:=(Option.bind_some _ _).symm.trans H;with_reducible exact H2_)|with_reducible exact H|(rw [hy163];exact H)|exact H
       have Ny163:=Aside0.mk hy163;clear hy163
       by_cases c8:y160.length<5864062014805
       ·
        rw [if_pos c8] at H;have LMc8:=Aside0.mk c8;clear c8;obtain ⟨y166,hy166⟩: ∃ y_:List (List Int),y_=(y160++ [y163]):=⟨_,rfl⟩
        replace H:(Qcm.l0 k1 a0 (wrap64 (Int.tdiv (wrap64 (a0+1)) 2)) y166 (wrap64 (x6_1+1)))=some (r1,r2):=by first|(rw [hy166];with_reducible exact H)|(have H2_:=(Option.bind_some _ _).symm.trans H;rw [hy166];with_reducible exact H2_)|(have H2_:=(Option.bind_some _ _).symm.trans H;with_reducible exact H2_)|with_reducible exact H|(rw [hy166];exact H)|exact H
        have Ny166:=Aside0.mk hy166;clear hy166;have H':=Aside0.mk H;clear H;go_wp2_with (first|((with_reducible refine Qc0 (N:=26) rfl ?_);refine Kd.R_lit (Kd.int .i64) _ 3 ?hg (N:=26) ?hd (xs:=([x6_1,wrap64 ((wrap64 (Int.tdiv (wrap64 (a0+1)) 2))+x6_1)] :List Int)) (inner:= [.int .i64 x6_1, .int .i64 (wrap64 ((wrap64 (Int.tdiv (wrap64 (a0+1)) 2))+x6_1))]) (ok:=fun _=>True) (okp:=fun _=>True) ?hr ?hp (fun _ hk=>hk) trivial (Below.refl _ _) (Nat.le_refl _) (by simp) ?_;(case hd=>rfl);(case hg=>rfl);(case hr=>first|(go_simp;done)|(go_simp;rfl));(case hp=>exact (Reps.one (show Kd.M (Kd.int .i64) _ _ _ x6_1 [.int .i64 x6_1] from rfl) (Reps.one (show Kd.M (Kd.int .i64) _ _ _ (wrap64 ((wrap64 (Int.tdiv (wrap64 (a0+1)) 2))+x6_1)) [.int .i64 (wrap64 ((wrap64 (Int.tdiv (wrap64 (a0+1)) 2))+x6_1))] from rfl) (Reps.none _ _))));intro v158 w9 ho10 hb hg_ hnew_;clear hg_ hnew_;(first|rw [←Ny157.out] at ho10|(simp only [Int.reduceToNat] at ho10;rw [←Ny157.out] at ho10));replace HO_5:=Aside0.mk (Kd.S_elder' (uS HO_5) (Kd.R_base ho10) hb);have HO159:=Aside0.mk (Kd.R_lower ho10 (Qp (uB HB)));replace BK155:=Aside0.mk (Qc (uK BK155) hb);replace HB:=Aside0.mk (Qa (uB HB) hb);clear hb ho10;obtain ⟨Ao12,co12,eo12⟩:=Kd.R_slice HO159.out;subst eo12)|((with_reducible refine Qc4 (b:= .append) (xs:= #[.tmp 21, .tmp 27]) rfl ?_);at_builtin;refine Kd.S_append (Kd.slice 3 (Kd.int .i64)) (w0:=w) w.heap.size rfl (.tmp 21) (.tmp 27) 40 24 (.slice none 0 0) 24 rfl Tryz.underlying40 Qfw rfl (by decide) (by omega) u5 x5_1 y157 [.slice Ao12 y157.length co12] (fun _=>True) (fun k_=>some k_=(.slice Ao12 y157.length co12:Value).ownBlock) rfl rfl ?aP (fun k_ hk_=>((Kd.R_mono (ok':=fun k_=>((fun _=>True)) k_∧some k_≠(u5:Value).ownBlock) (Kd.R_apart' (HO159.out) (Kd.S_typed HO_5.out) (by decide)) (fun k_ hk=>⟨trivial,hk.2⟩))).1 k_ hk_.symm) ?aF ?aO ?aB ?aS ?aL ?_;(case aP=>exact Kd.M_row (Kd.R_mono (Kd.R_tight rfl (Kd.R_mono (ok':=fun k_=>((fun _=>True)) k_∧some k_≠(u5:Value).ownBlock) (Kd.R_apart' (HO159.out) (Kd.S_typed HO_5.out) (by decide)) (fun k_ hk=>⟨trivial,hk.2⟩))) (fun _ h_=>h_)));(case aB=>exact (uB HB));(case aF=>exact (fun _ _=>trivial));(case aO=>exact (by (with_reducible repeat (first|apply Kd.S_alloc|apply Kd.S_drewN|apply Kd.S_drew));exact Kd.S_mono HO_5.out (fun k_ hk=>⟨trivial,fun e_=>hk.2 e_⟩)));(case aS=>exact (Qp (uB HB)));(case aL=>have:=LMc6.out;omega);intro v161 w11 ho hb hg hat;rw [←Ny160.out] at ho;replace BK155:=Aside0.mk (Qds (uK BK155) hg (Kd.S_ne HO_5.out BK155.out (by decide)));replace HB:=Aside0.mk (hb);have HO162:=Aside0.mk (ho);clear HO_5 HO159;clear ho hb hg hat)|((with_reducible refine Qc0 (N:=39) rfl ?_);refine Kd.R_lit (Kd.int .i64) _ 3 ?hg (N:=39) ?hd (xs:=([wrap64 (x6_1+1),wrap64 ((wrap64 (Int.tdiv (wrap64 (a0+1)) 2))+x6_1)] :List Int)) (inner:= [.int .i64 (wrap64 (x6_1+1)), .int .i64 (wrap64 ((wrap64 (Int.tdiv (wrap64 (a0+1)) 2))+x6_1))]) (ok:=fun _=>True) (okp:=fun _=>True) ?hr ?hp (fun _ hk=>hk) trivial (Below.refl _ _) (Nat.le_refl _) (by simp) ?_;(case hd=>rfl);(case hg=>rfl);(case hr=>first|(go_simp;done)|(go_simp;rfl));(case hp=>exact (Reps.one (show Kd.M (Kd.int .i64) _ _ _ (wrap64 (x6_1+1)) [.int .i64 (wrap64 (x6_1+1))] from rfl) (Reps.one (show Kd.M (Kd.int .i64) _ _ _ (wrap64 ((wrap64 (Int.tdiv (wrap64 (a0+1)) 2))+x6_1)) [.int .i64 (wrap64 ((wrap64 (Int.tdiv (wrap64 (a0+1)) 2))+x6_1))] from rfl) (Reps.none _ _))));intro v164 w13 ho14 hb hg_ hnew_;clear hg_ hnew_;(first|rw [←Ny163.out] at ho14|(simp only [Int.reduceToNat] at ho14;rw [←Ny163.out] at ho14));replace HO162:=Aside0.mk (Kd.S_elder' (uS HO162) (Kd.R_base ho14) hb);have HO165:=Aside0.mk (Kd.R_lower ho14 (Qp (uB HB)));replace BK155:=Aside0.mk (Qc (uK BK155) hb);replace HB:=Aside0.mk (Qa (uB HB) hb);clear hb ho14;obtain ⟨Ao16,co16,eo16⟩:=Kd.R_slice HO165.out;subst eo16)|((with_reducible refine Qc4 (b:= .append) (xs:= #[.tmp 33, .tmp 40]) rfl ?_);at_builtin;refine Kd.S_append (Kd.slice 3 (Kd.int .i64)) (w0:=w) w.heap.size rfl (.tmp 33) (.tmp 40) 40 24 (.slice none 0 0) 24 rfl Tryz.underlying40 Qfw rfl (by decide) (by omega) v161 y160 y163 [.slice Ao16 y163.length co16] (fun _=>True) (fun k_=>some k_=(.slice Ao16 y163.length co16:Value).ownBlock) rfl rfl ?aP (fun k_ hk_=>((Kd.R_mono (ok':=fun k_=>((fun _=>True)) k_∧some k_≠(v161:Value).ownBlock) (Kd.R_apart' (HO165.out) (Kd.S_typed HO162.out) (by decide)) (fun k_ hk=>⟨trivial,hk.2⟩))).1 k_ hk_.symm) ?aF ?aO ?aB ?aS ?aL ?_;(case aP=>exact Kd.M_row (Kd.R_mono (Kd.R_tight rfl (Kd.R_mono (ok':=fun k_=>((fun _=>True)) k_∧some k_≠(v161:Value).ownBlock) (Kd.R_apart' (HO165.out) (Kd.S_typed HO162.out) (by decide)) (fun k_ hk=>⟨trivial,hk.2⟩))) (fun _ h_=>h_)));(case aB=>exact (uB HB));(case aF=>exact (fun _ _=>trivial));(case aO=>exact (by (with_reducible repeat (first|apply Kd.S_alloc|apply Kd.S_drewN|apply Kd.S_drew));exact Kd.S_mono HO162.out (fun k_ hk=>⟨trivial,fun e_=>hk.2 e_⟩)));(case aS=>exact (Qp (uB HB)));(case aL=>have:=LMc8.out;omega);intro v167 w15 ho hb hg hat;rw [←Ny166.out] at ho;replace BK155:=Aside0.mk (Qds (uK BK155) hg (Kd.S_ne HO162.out BK155.out (by decide)));replace HB:=Aside0.mk (hb);have HO168:=Aside0.mk (ho);clear HO162 HO165;clear ho hb hg hat))
        go_roundg k1
        case measure=>have:=HK1.out;omega
        case rel=>exact ⟨(y166),(wrap64 (x6_1+1)),(by first|rfl|(simp;done)|(simp [*];done)),H',⟨by have:=HK1.out;omega⟩,⟨uS HO168⟩,⟨uK BK155⟩,⟨uB HB⟩⟩
       ·
        rw [if_neg c8] at H;exact absurd H (by simp)
      ·
       rw [if_neg c7] at H;have c7b0:=decide_eq_false c7;clear c7;have H':=Aside0.mk H;clear H;go_wp2_with (first|((with_reducible refine Qc0 (N:=26) rfl ?_);refine Kd.R_lit (Kd.int .i64) _ 3 ?hg (N:=26) ?hd (xs:=([x6_1,wrap64 ((wrap64 (Int.tdiv (wrap64 (a0+1)) 2))+x6_1)] :List Int)) (inner:= [.int .i64 x6_1, .int .i64 (wrap64 ((wrap64 (Int.tdiv (wrap64 (a0+1)) 2))+x6_1))]) (ok:=fun _=>True) (okp:=fun _=>True) ?hr ?hp (fun _ hk=>hk) trivial (Below.refl _ _) (Nat.le_refl _) (by simp) ?_;(case hd=>rfl);(case hg=>rfl);(case hr=>first|(go_simp;done)|(go_simp;rfl));(case hp=>exact (Reps.one (show Kd.M (Kd.int .i64) _ _ _ x6_1 [.int .i64 x6_1] from rfl) (Reps.one (show Kd.M (Kd.int .i64) _ _ _ (wrap64 ((wrap64 (Int.tdiv (wrap64 (a0+1)) 2))+x6_1)) [.int .i64 (wrap64 ((wrap64 (Int.tdiv (wrap64 (a0+1)) 2))+x6_1))] from rfl) (Reps.none _ _))));intro v158 w17 ho18 hb hg_ hnew_;clear hg_ hnew_;(first|rw [←Ny157.out] at ho18|(simp only [Int.reduceToNat] at ho18;rw [←Ny157.out] at ho18));replace HO_5:=Aside0.mk (Kd.S_elder' (uS HO_5) (Kd.R_base ho18) hb);have HO159:=Aside0.mk (Kd.R_lower ho18 (Qp (uB HB)));replace BK155:=Aside0.mk (Qc (uK BK155) hb);replace HB:=Aside0.mk (Qa (uB HB) hb);clear hb ho18;obtain ⟨Ao20,co20,eo20⟩:=Kd.R_slice HO159.out;subst eo20)|((with_reducible refine Qc4 (b:= .append) (xs:= #[.tmp 21, .tmp 27]) rfl ?_);at_builtin;refine Kd.S_append (Kd.slice 3 (Kd.int .i64)) (w0:=w) w.heap.size rfl (.tmp 21) (.tmp 27) 40 24 (.slice none 0 0) 24 rfl Tryz.underlying40 Qfw rfl (by decide) (by omega) u5 x5_1 y157 [.slice Ao20 y157.length co20] (fun _=>True) (fun k_=>some k_=(.slice Ao20 y157.length co20:Value).ownBlock) rfl rfl ?aP (fun k_ hk_=>((Kd.R_mono (ok':=fun k_=>((fun _=>True)) k_∧some k_≠(u5:Value).ownBlock) (Kd.R_apart' (HO159.out) (Kd.S_typed HO_5.out) (by decide)) (fun k_ hk=>⟨trivial,hk.2⟩))).1 k_ hk_.symm) ?aF ?aO ?aB ?aS ?aL ?_;(case aP=>exact Kd.M_row (Kd.R_mono (Kd.R_tight rfl (Kd.R_mono (ok':=fun k_=>((fun _=>True)) k_∧some k_≠(u5:Value).ownBlock) (Kd.R_apart' (HO159.out) (Kd.S_typed HO_5.out) (by decide)) (fun k_ hk=>⟨trivial,hk.2⟩))) (fun _ h_=>h_)));(case aB=>exact (uB HB));(case aF=>exact (fun _ _=>trivial));(case aO=>exact (by (with_reducible repeat (first|apply Kd.S_alloc|apply Kd.S_drewN|apply Kd.S_drew));exact Kd.S_mono HO_5.out (fun k_ hk=>⟨trivial,fun e_=>hk.2 e_⟩)));(case aS=>exact (Qp (uB HB)));(case aL=>have:=LMc6.out;omega);intro v161 w19 ho hb hg hat;rw [←Ny160.out] at ho;replace BK155:=Aside0.mk (Qds (uK BK155) hg (Kd.S_ne HO_5.out BK155.out (by decide)));replace HB:=Aside0.mk (hb);have HO162:=Aside0.mk (ho);clear HO_5 HO159;clear ho hb hg hat));go_roundg k1
       case measure=>have:=HK1.out;omega
       case rel=>exact ⟨(y160),(wrap64 (x6_1+1)),(by first|rfl|(simp;done)|(simp [*];done)),H',⟨by have:=HK1.out;omega⟩,⟨uS HO162⟩,⟨uK BK155⟩,⟨uB HB⟩⟩
     ·
      rw [if_neg c6] at H;exact absurd H (by simp)
    ·
     rw [if_neg c5] at H;have c5b0:=decide_eq_false c5;clear c5;obtain ⟨t169,A21,H⟩:=bs H;(try dsimp only at H)
     simp only [Option.some.injEq,Prod.mk.injEq] at H;obtain ⟨rfl,rfl⟩:=H;obtain ⟨Ao22,co22,eo22⟩:=Kd.S_slice HO_5.out;subst eo22;go_wp2_with (first|(refine gA (some 44) Tryz.func163 #[.int .i64 a0, .slice Ao22 x5_1.length co22] ?_;(with_reducible refine (Qbg.calls k1 a0 _ _ x5_1 t169 _ ?side1 ?side2 A21.out).mono ?_);(case side1=>repeat (first|exact (Kd.S_reads' HO_5.out).2.2|(with_reducible refine Kd.C_alloc ?_ _)|(with_reducible refine Kd.C_drewN ?_ _)|(with_reducible refine Kd.C_drew ?_)));(case side2=>exact (Kd.S_reads' HO_5.out).2.1);rintro e w23 ⟨v170,rfl,ho0,hb⟩;refine ⟨_,rfl,?_⟩;replace HO_5:=Aside0.mk (Kd.S_elder' (uS HO_5) (Kd.R_base ho0) hb);have HO171:=Aside0.mk (Kd.R_lower ho0 (Qp (uB HB)));replace BK155:=Aside0.mk (Qc (uK BK155) hb);replace HB:=Aside0.mk (Qa (uB HB) hb);(try clear hb ho0);obtain ⟨Ao24,co24,eo24⟩:=Kd.R_slice HO171.out;subst eo24;have hcz25_0:=bC BK155;have hfz25_0:=Qf BK155.out 0));refine bodyPost_ret (Qd7 rfl _ _ gb155 26 #[.slice Ao24 t169.length co24] (0,0) _ rfl (by (with_reducible repeat (first|refine Qk ?_ _|refine Qj ?_|refine Qi ?_ _));refine Qcs (cs:= #[.slice none 0 0]) ?_ 0 _ rfl;(with_reducible repeat (first|refine Qk ?_ _|refine Qj ?_|refine Qi ?_ _));exact BK155.out) Tryz.underlying26 rfl (by kernel_rfl)) rfl ?_;exact ⟨_,by first|rfl|(simp [Qd,Qe] <;>rfl)|(simp [*,Qd,Qe] <;>rfl),by (with_reducible repeat (first|apply Kd.R_alloc|apply Kd.R_drewN|apply Kd.R_drew));exact Kd.R_mono (Kd.R_far (p:=⟨gb155,0,none⟩) (Kd.R_types HO171.out BK155.out (by decide)) (fun _ hk=>hk.2) (.slice Ao24 t169.length co24)) (fun _ hk=>trivial),by repeat (first|(with_reducible first|exact HB.out|apply Qo|apply Qq|apply Qy|refine Q4 ?_ GE155.out)|exact HB.out)⟩
 ·
  replace c3:=Bool.eq_false_iff.mpr c3;subst c3;rw [if_neg (show ¬ (false=true) by decide)] at H;simp only [Option.some.injEq,Prod.mk.injEq] at H;obtain ⟨rfl,rfl⟩:=H;go_enter Tryz.func336,Tryz.ntmps336;go_wp2_with (first|(refine bE (N:=2) (cs:= #[.slice none 0 0]) (t:=26) ?_;intro gb155 hg w26 hbox hb;have BK155:=Aside0.mk (hbox);have GW155:=Aside0.mk ((gV hg (uB HB)));have GE155:=GW155;replace HB:=Aside0.mk (Qa (uB HB) hb);clear hb hbox hg)|(refine gA (some 8) Tryz.func192 #[.int .i64 a0, .int .i64 1, .int .i64 10] ?_;(with_reducible refine (Qde.calls a0 1 10 false _ A2.out).mono ?_);rintro e w' ⟨rfl,⟨nd,rfl⟩⟩;refine ⟨_,rfl,?_⟩;(try (rw [Qhg w26];generalize hq_:World.drewN w26 _=w26;have n0_:Aside0 (w26.heap[gb155]? =some (.cells #[.slice none 0 0] 26 (0,0))):=⟨by rw [←hq_];exact (uK BK155)⟩;have n1_:Aside0 (Below w.heap.size w w26):=⟨by rw [←hq_];exact (uB HB)⟩;clear BK155 HB hq_;have BK155:=n0_;have HB:=n1_;clear n0_ n1_));have hcz27_0:=bC BK155;have hfz27_0:=Qf BK155.out 0));refine bodyPost_ret (Qd7 rfl _ _ gb155 26 #[.slice none 0 0] (0,0) _ rfl (by (with_reducible repeat (first|refine Qk ?_ _|refine Qj ?_|refine Qi ?_ _));refine Qcs (cs:= #[.slice none 0 0]) ?_ 0 _ rfl;(with_reducible repeat (first|refine Qk ?_ _|refine Qj ?_|refine Qi ?_ _));exact BK155.out) Tryz.underlying26 rfl (by kernel_rfl)) rfl ?_;exact ⟨_,by first|rfl|(simp [Qd,Qe] <;>rfl)|(simp [*,Qd,Qe] <;>rfl),by first|exact Kd.R_nil _ _ _ _ _|exact Kd.N_nil _ _ _ _ _|exact Kd.V_nil _ _ _ _ _|exact Kd.Q_nil _ _ _ _ _|exact Kd.S_nil _ _ _ _ _,by repeat (first|(with_reducible first|exact HB.out|apply Qo|apply Qq|apply Qy|refine Q4 ?_ GE155.out)|exact HB.out)⟩
mutual
def Qr.l0 : Nat → Int → List (List Int) → Int → List Int → Int → Int → Option (List Int × Int × Int)
 |0,_,_,_,_,_,_=>none
 |k+1,x9,x10,x11,x1000,x1001,x1002=>if x11>0 then (Qr.j1 k x9 x10 x11 (decide (x9>1)) x1000 x1001 x1002) else (Qr.j1 k x9 x10 x11 false x1000 x1001 x1002)
def Qr.j1 : Nat → Int → List (List Int) → Int → Bool → List Int → Int → Int → Option (List Int × Int × Int)
 |0,_,_,_,_,_,_,_=>none
 |k+1,x9,x10,x11,x61,x1000,x1001,x1002=>if x61=true then ((Qz.f x1000 x1001 x1002 (wrap64 (x9 - 1))).bind fun bt208=>((Qz.f x1000 bt208.2.1 bt208.2.2 (wrap64 ((wrap64 (x9 - 1)) - bt208.1))).bind fun bt211=>(if x10.length<5864062014805 then (Qr.l0 k x9 (x10++ [(([bt208.1,wrap64 ((wrap64 (bt208.1+1))+bt211.1)] :List Int))]) (wrap64 (x11 - 1)) x1000 bt211.2.1 bt211.2.2) else (none)))) else ((Qbg.f k x9 x10).bind fun t220=>(some (t220,x1001,x1002)))
end
def Qr.f (k : Nat) (s0_0 : List Int) (s0_1 : Int) (s0_2 : Int) (a1 : Int) : Option (List Int × Int × Int) := (Qz.f s0_0 s0_1 s0_2 5).bind fun bt173 => (if bt173.1 = 0 then ((Qz.f s0_0 bt173.2.1 bt173.2.2 2).bind fun bt176 => ((Qed.f 1 (wrap64 (Int.tdiv a1 2))).bind fun t179 => ((Qz.f s0_0 bt176.2.1 bt176.2.2 t179).bind fun bt180 => ((Qbd.f k (wrap64 (1 + bt176.1)) (wrap64 (1 + bt180.1))).bind fun t183 => (some (t183, bt180.2.1, bt180.2.2)))))) else (if bt173.1 = 1 then ((Qz.f s0_0 bt173.2.1 bt173.2.2 2).bind fun bt186 => ((Qx.f k (wrap64 (1 + bt186.1))).bind fun bt189 => (some (bt189.1, bt186.2.1, bt186.2.2)))) else (if bt173.1 = 2 then ((Qz.f s0_0 bt173.2.1 bt173.2.2 a1).bind fun bt194 => ((Qcm.f k (wrap64 (1 + bt194.1))).bind fun bt197 => (some (bt197.1, bt194.2.1, bt194.2.2)))) else ((Qz.f s0_0 bt173.2.1 bt173.2.2 a1).bind fun bt202 => ((Qz.f s0_0 bt202.2.1 bt202.2.2 (wrap64 (2 * (wrap64 (1 + bt202.1))))).bind fun bt205 => (Qr.l0 k (wrap64 (1 + bt202.1)) ([] : List (List Int)) bt205.1 s0_0 bt205.2.1 bt205.2.2))))))
theorem Qr.mono_l : ∀ k, (∀ y0 y1 y2 y3 y4 y5, LeO (Qr.l0 k y0 y1 y2 y3 y4 y5) (Qr.l0 (k + 1) y0 y1 y2 y3 y4 y5)) ∧ (∀ y0 y1 y2 y3 y4 y5 y6, LeO (Qr.j1 k y0 y1 y2 y3 y4 y5 y6) (Qr.j1 (k + 1) y0 y1 y2 y3 y4 y5 y6))
 |0=>⟨fun _ _ _ _ _ _ r h=>by simp [Qr.l0] at h,fun _ _ _ _ _ _ _ r h=>by simp [Qr.j1] at h⟩
 |k+1=>by
  obtain ⟨ih0,ih1⟩:=Qr.mono_l k;refine ⟨?_,?_⟩
  all_goals
   intros
   first|unfold Qr.l0|unfold Qr.j1
   repeat' (with_reducible first|apply ih0|apply ih1|apply Qcm.mono|apply Qx.mono|apply Qbg.mono|apply Qbd.mono|exact LeO.refl _|exact LeO.none _|refine LeO.ite ?_ ?_|refine LeO.bind ?_ (fun _=> ?_))
theorem Qr.mono : ∀ a0 a1 a2 a3 k, LeO (Qr.f k a0 a1 a2 a3) (Qr.f (k + 1) a0 a1 a2 a3) := by
 intro a0 a1 a2 a3 k;obtain ⟨ih0,ih1⟩:=Qr.mono_l k;unfold Qr.f
 repeat' (with_reducible first|apply ih0|apply ih1|apply Qcm.mono|apply Qx.mono|apply Qbg.mono|apply Qbd.mono|exact LeO.refl _|exact LeO.none _|refine LeO.ite ?_ ?_|refine LeO.bind ?_ (fun _=> ?_))
set_option maxHeartbeats 8000000 in
set_option maxRecDepth 100000 in
theorem Qr.calls (k : Nat) (g : Nat) (s0_0 : List Int) (s0_1 : Int) (s0_2 : Int) (a1 : Int) (r1 : List Int) (r2 : Int) (r3 : Int) (w0 w : World) (hI : Qb w0 w g s0_0 s0_1 s0_2) (hB : Below w0.heap.size w0 w) (h : Qr.f k s0_0 s0_1 s0_2 a1 = some (r1, r2, r3)) :
 Calls Tryz.prog 286 #[.pointer (some ⟨g,0,none⟩), .int .i64 a1] w fun e w'=> ∃ v0_:Value,e= .returned (.agg #[v0_])∧Kd.R (Kd.int .i64) 3 w' w.heap.size (fun _=>True) v0_ r1∧Qb w0 w' g s0_0 r2 r3∧Below w0.heap.size w0 w'∧Qg w w' g none:=by
 have hu26:=Tryz.underlying26;have HI0:=Aside0.mk hI;have HK:=Aside0.mk (Qg.refl w g none);have HL:=Aside0.mk hB.size;clear hI;have HW0:=Aside0.mk hB.size;have HB:=Aside0.mk hB;clear hB;have H:((Qz.f s0_0 s0_1 s0_2 5).bind fun bt173=>(if bt173.1=0 then ((Qz.f s0_0 bt173.2.1 bt173.2.2 2).bind fun bt176=>((Qed.f 1 (wrap64 (Int.tdiv a1 2))).bind fun t179=>((Qz.f s0_0 bt176.2.1 bt176.2.2 t179).bind fun bt180=>((Qbd.f k (wrap64 (1+bt176.1)) (wrap64 (1+bt180.1))).bind fun t183=>(some (t183,bt180.2.1,bt180.2.2)))))) else (if bt173.1=1 then ((Qz.f s0_0 bt173.2.1 bt173.2.2 2).bind fun bt186=>((Qx.f k (wrap64 (1+bt186.1))).bind fun bt189=>(some (bt189.1,bt186.2.1,bt186.2.2)))) else (if bt173.1=2 then ((Qz.f s0_0 bt173.2.1 bt173.2.2 a1).bind fun bt194=>((Qcm.f k (wrap64 (1+bt194.1))).bind fun bt197=>(some (bt197.1,bt194.2.1,bt194.2.2)))) else ((Qz.f s0_0 bt173.2.1 bt173.2.2 a1).bind fun bt202=>((Qz.f s0_0 bt202.2.1 bt202.2.2 (wrap64 (2*(wrap64 (1+bt202.1))))).bind fun bt205=>(Qr.l0 k (wrap64 (1+bt202.1)) ([] :List (List Int)) bt205.1 s0_0 bt205.2.1 bt205.2.2)))))))=some (r1,r2,r3):=h;clear h;obtain ⟨⟨t173,t174,t175⟩,A3,H⟩:=bs H;(try dsimp only at H)
 by_cases c4:t173=0
 ·
  rw [if_pos c4] at H;have c4b0:(t173==0)=true:=beq_iff_eq.mpr c4;have c4b1:(t173 !=0)=false:=bne_eq_false_iff_eq.mpr c4;clear c4;obtain ⟨⟨t176,t177,t178⟩,A5,H⟩:=bs H;(try dsimp only at H)
  obtain ⟨t179,A6,H⟩:=bs H;(try dsimp only at H)
  obtain ⟨⟨t180,t181,t182⟩,A7,H⟩:=bs H;(try dsimp only at H)
  obtain ⟨t183,A8,H⟩:=bs H;(try dsimp only at H)
  simp only [Option.some.injEq,Prod.mk.injEq] at H;obtain ⟨rfl,rfl,rfl⟩:=H;go_enter Tryz.func286,Tryz.ntmps286;go_wp2_with (first|(refine bE (N:=4) (cs:= #[.slice none 0 0]) (t:=26) ?_;intro gb172 hg w9 hbox hb;replace HB:=Aside0.mk (Qa (uB HB) hb);have BK172:=Aside0.mk (hbox);have GW172:=Aside0.mk ((gW hg (uP HK)));have GE172:=Aside0.mk ((Nat.le_trans HW0.out (gW hg (uP HK))));replace HK:=Aside0.mk (Qg.trans (uP HK) (Qg.of_below hb g none) (.inl rfl));have NB0_172:=Aside0.mk ((nL hg (Qb.lt (Qb.u HI0))));have NB172_0:=Aside0.mk ((nG hg (Qb.lt (Qb.u HI0))));replace HI0:=Aside0.mk (Qb.below (Qb.u HI0) hb);clear hb hbox hg)|(refine gA (some 14) Tryz.func162 #[.pointer (some ⟨g,0,none⟩), .int .i64 5] ?_;(with_reducible refine (Qz.calls g s0_0 s0_1 s0_2 5 t173 t174 t175 w0 _ (Qb.u HI0) (uB HB) A3.out).mono ?_);rintro e w10 ⟨rfl,hi,hb,hk⟩;refine ⟨_,rfl,?_⟩;replace BK172:=Aside0.mk (Qg.blk hk (g':=gb172) (o:= .cells #[.slice none 0 0] 26 (0,0)) (uK BK172) NB172_0.out (by simp));replace HK:=Aside0.mk (Qg.trans (uP HK) hk (.inl rfl));replace HB:=Aside0.mk (hb);replace HI0:=Aside0.mk (hi);(try clear hb hk hi))|(refine gA (some 18) Tryz.func162 #[.pointer (some ⟨g,0,none⟩), .int .i64 2] ?_;(with_reducible refine (Qz.calls g s0_0 t174 t175 2 t176 t177 t178 w0 _ (Qb.u HI0) (uB HB) A5.out).mono ?_);rintro e w11 ⟨rfl,hi,hb,hk⟩;refine ⟨_,rfl,?_⟩;replace BK172:=Aside0.mk (Qg.blk hk (g':=gb172) (o:= .cells #[.slice none 0 0] 26 (0,0)) (uK BK172) NB172_0.out (by simp));replace HK:=Aside0.mk (Qg.trans (uP HK) hk (.inl rfl));replace HB:=Aside0.mk (hb);replace HI0:=Aside0.mk (hi);(try clear hb hk hi))|(refine gA (some 23) Tryz.func332 #[.int .i64 1, .int .i64 (wrap64 (Int.tdiv a1 2))] ?_;(with_reducible refine (Qed.calls 1 (wrap64 (Int.tdiv a1 2)) t179 _ A6.out).mono ?_);rintro e w' ⟨rfl,⟨nd,rfl⟩⟩;refine ⟨_,rfl,?_⟩;(try (rw [Qhg w11];generalize hq_:World.drewN w11 _=w11;have n0_:Aside0 (w11.heap[gb172]? =some (.cells #[.slice none 0 0] 26 (0,0))):=⟨by rw [←hq_];exact (uK BK172)⟩;have n1_:Aside0 (Qb w0 w11 g s0_0 t177 t178):=⟨by rw [←hq_];exact (Qb.u HI0)⟩;have n2_:Aside0 (Qg w w11 g none):=⟨by rw [←hq_];exact (uP HK)⟩;have n3_:Aside0 (Below w0.heap.size w0 w11):=⟨by rw [←hq_];exact (uB HB)⟩;clear BK172 HI0 HK HB hq_;have BK172:=n0_;have HI0:=n1_;have HK:=n2_;have HB:=n3_;clear n0_ n1_ n2_ n3_)))|(refine gA (some 24) Tryz.func162 #[.pointer (some ⟨g,0,none⟩), .int .i64 t179] ?_;(with_reducible refine (Qz.calls g s0_0 t177 t178 t179 t180 t181 t182 w0 _ (Qb.u HI0) (uB HB) A7.out).mono ?_);rintro e w12 ⟨rfl,hi,hb,hk⟩;refine ⟨_,rfl,?_⟩;replace BK172:=Aside0.mk (Qg.blk hk (g':=gb172) (o:= .cells #[.slice none 0 0] 26 (0,0)) (uK BK172) NB172_0.out (by simp));replace HK:=Aside0.mk (Qg.trans (uP HK) hk (.inl rfl));replace HB:=Aside0.mk (hb);replace HI0:=Aside0.mk (hi);(try clear hb hk hi))|(refine gA (some 26) Tryz.func209 #[.int .i64 (wrap64 (1+t176)), .int .i64 (wrap64 (1+t180))] ?_;(with_reducible refine (Qbd.calls k (wrap64 (1+t176)) (wrap64 (1+t180)) t183 _ A8.out).mono ?_);rintro e w13 ⟨v184,rfl,ho0,hb⟩;refine ⟨_,rfl,?_⟩;have HO185:=Aside0.mk (Kd.R_lower ho0 (Qb3 (w:=w) (g:=g) (row:=none) (uP HK)));replace HI0:=Aside0.mk (Qb.below (Qb.u HI0) hb);replace BK172:=Aside0.mk (Qc (uK BK172) hb);replace HK:=Aside0.mk (Qg.trans (uP HK) (Qg.of_below hb g none) (.inl rfl));replace HB:=Aside0.mk (Qa (uB HB) hb);(try clear hb ho0);obtain ⟨Ao14,co14,eo14⟩:=Kd.R_slice HO185.out;subst eo14;have hnb15:=NB172_0.out;have hnc15:=NB0_172.out;have hcz16_0:=bC BK172;have hfz16_0:=Qf BK172.out 0));refine bodyPost_ret (results_cell_row rfl _ _ gb172 26 #[.slice Ao14 t183.length co14] (0,0) _ rfl (by (with_reducible repeat (first|refine Qk ?_ _|refine Qj ?_|refine Qi ?_ _));refine Qcs (cs:= #[.slice none 0 0]) ?_ 0 _ rfl;(with_reducible repeat (first|refine Qk ?_ _|refine Qj ?_|refine Qi ?_ _));exact BK172.out) Tryz.underlying26 rfl (by kernel_rfl)) rfl ?_;exact ⟨_,by first|rfl|(simp [Qd,Qe] <;>rfl)|(simp [*,Qd,Qe] <;>rfl),by (with_reducible repeat (first|apply Kd.R_alloc|apply Kd.R_drewN|apply Kd.R_drew));exact Kd.R_mono (Kd.R_far (p:=⟨gb172,0,none⟩) (Kd.R_types HO185.out BK172.out (by decide)) (fun _ hk=>hk.2) (.slice Ao14 t183.length co14)) (fun _ hk=>trivial),by repeat (first|(with_reducible first|exact HI0.out|apply Qb.alloc|apply Qb.drewN|apply Qb.drew|apply Qb.set_1|apply Qb.set_2|refine Qb.far ?_ NB0_172.out _)|exact HI0.out),by repeat (first|(with_reducible first|exact HB.out|apply Qo|apply Qq|apply Qy|refine Q4 ?_ (Qb.ge HI0.out)|refine Q4 ?_ GE172.out)|exact HB.out),by repeat (first|(with_reducible first|exact HK.out|apply Qg.set_|apply Qfa|apply Qeo|apply Qe9|refine Qgj ?_ GW172.out _)|exact HK.out)⟩
 ·
  rw [if_neg c4] at H;have c4b0:(t173==0)=false:=beq_eq_false_iff_ne.mpr c4;have c4b1:(t173 !=0)=true:=bne_iff_ne.mpr c4
  by_cases c17:t173=1
  ·
   rw [if_pos c17] at H;have c17b0:(t173==1)=true:=beq_iff_eq.mpr c17;have c17b1:(t173 !=1)=false:=bne_eq_false_iff_eq.mpr c17;clear c17;obtain ⟨⟨t186,t187,t188⟩,A18,H⟩:=bs H;(try dsimp only at H)
   obtain ⟨⟨t189,t192⟩,A19,H⟩:=bs H;(try dsimp only at H)
   simp only [Option.some.injEq,Prod.mk.injEq] at H;obtain ⟨rfl,rfl,rfl⟩:=H;go_enter Tryz.func286,Tryz.ntmps286;go_wp2_with (first|(refine bE (N:=4) (cs:= #[.slice none 0 0]) (t:=26) ?_;intro gb172 hg w20 hbox hb;replace HB:=Aside0.mk (Qa (uB HB) hb);have BK172:=Aside0.mk (hbox);have GW172:=Aside0.mk ((gW hg (uP HK)));have GE172:=Aside0.mk ((Nat.le_trans HW0.out (gW hg (uP HK))));replace HK:=Aside0.mk (Qg.trans (uP HK) (Qg.of_below hb g none) (.inl rfl));have NB0_172:=Aside0.mk ((nL hg (Qb.lt (Qb.u HI0))));have NB172_0:=Aside0.mk ((nG hg (Qb.lt (Qb.u HI0))));replace HI0:=Aside0.mk (Qb.below (Qb.u HI0) hb);clear hb hbox hg)|(refine gA (some 14) Tryz.func162 #[.pointer (some ⟨g,0,none⟩), .int .i64 5] ?_;(with_reducible refine (Qz.calls g s0_0 s0_1 s0_2 5 t173 t174 t175 w0 _ (Qb.u HI0) (uB HB) A3.out).mono ?_);rintro e w21 ⟨rfl,hi,hb,hk⟩;refine ⟨_,rfl,?_⟩;replace BK172:=Aside0.mk (Qg.blk hk (g':=gb172) (o:= .cells #[.slice none 0 0] 26 (0,0)) (uK BK172) NB172_0.out (by simp));replace HK:=Aside0.mk (Qg.trans (uP HK) hk (.inl rfl));replace HB:=Aside0.mk (hb);replace HI0:=Aside0.mk (hi);(try clear hb hk hi))|(refine gA (some 31) Tryz.func162 #[.pointer (some ⟨g,0,none⟩), .int .i64 2] ?_;(with_reducible refine (Qz.calls g s0_0 t174 t175 2 t186 t187 t188 w0 _ (Qb.u HI0) (uB HB) A18.out).mono ?_);rintro e w22 ⟨rfl,hi,hb,hk⟩;refine ⟨_,rfl,?_⟩;replace BK172:=Aside0.mk (Qg.blk hk (g':=gb172) (o:= .cells #[.slice none 0 0] 26 (0,0)) (uK BK172) NB172_0.out (by simp));replace HK:=Aside0.mk (Qg.trans (uP HK) hk (.inl rfl));replace HB:=Aside0.mk (hb);replace HI0:=Aside0.mk (hi);(try clear hb hk hi))|(refine gA (some 33) Tryz.func268 #[.int .i64 (wrap64 (1+t186))] ?_;(with_reducible refine (Qx.calls k (wrap64 (1+t186)) t189 t192 _ A19.out).mono ?_);rintro e w23 ⟨v190,rfl,ho0,hb⟩;refine ⟨_,rfl,?_⟩;have HO191:=Aside0.mk (Kd.R_lower ho0 (Qb3 (w:=w) (g:=g) (row:=none) (uP HK)));replace HI0:=Aside0.mk (Qb.below (Qb.u HI0) hb);replace BK172:=Aside0.mk (Qc (uK BK172) hb);replace HK:=Aside0.mk (Qg.trans (uP HK) (Qg.of_below hb g none) (.inl rfl));replace HB:=Aside0.mk (Qa (uB HB) hb);(try clear hb ho0))|(refine bE (N:=5) (cs:= #[.slice none 0 0]) (t:=26) ?_;intro gb193 hg w24 hbox hb;replace HO191:=Aside0.mk (Kd.R_below (uR HO191) hb);replace HB:=Aside0.mk (Qa (uB HB) hb);have BK193:=Aside0.mk (hbox);have GW193:=Aside0.mk ((by rw [hg];exact (Qb3 (w:=w) (g:=g) (row:=none) (uP HK)):w.heap.size≤gb193));have GE193:=Aside0.mk ((Nat.le_trans HW0.out (by rw [hg];exact (Qb3 (w:=w) (g:=g) (row:=none) (uP HK)):w.heap.size≤gb193):w0.heap.size≤gb193));replace HK:=Aside0.mk (Qg.trans (uP HK) (Qg.of_below hb g none) (.inl rfl));have NB172_193:=Aside0.mk ((nL hg (Qcc (uK BK172))));have NB193_172:=Aside0.mk ((nG hg (Qcc (uK BK172))));replace BK172:=Aside0.mk (Qc (uK BK172) hb);have NB0_193:=Aside0.mk ((nL hg (Qb.lt (Qb.u HI0))));have NB193_0:=Aside0.mk ((nG hg (Qb.lt (Qb.u HI0))));replace HI0:=Aside0.mk (Qb.below (Qb.u HI0) hb);clear hb hbox hg;obtain ⟨Ao25,co25,eo25⟩:=Kd.R_slice HO191.out;subst eo25;have hnb26:=NB193_172.out;have hnc26:=NB172_193.out;have hnb27:=NB193_0.out;have hnc27:=NB0_193.out;have hcz28_0:=bC BK193;have hfz28_0:=Qf BK193.out 0;have hnb29:=NB172_0.out;have hnc29:=NB0_172.out;have hcz30_0:=bC BK172;have hfz30_0:=Qf BK172.out 0));refine bodyPost_ret (results_cell_row rfl _ _ gb172 26 #[.slice Ao25 t189.length co25] (0,0) _ rfl (by (with_reducible repeat (first|refine Qk ?_ _|refine Qj ?_|refine Qi ?_ _));refine Qcs (cs:= #[.slice none 0 0]) ?_ 0 _ rfl;(with_reducible repeat (first|refine Qk ?_ _|refine Qj ?_|refine Qi ?_ _));refine Qd8 ?_ NB172_193.out _;(with_reducible repeat (first|refine Qk ?_ _|refine Qj ?_|refine Qi ?_ _));exact BK172.out) Tryz.underlying26 rfl (by kernel_rfl)) rfl ?_;exact ⟨_,by first|rfl|(simp [Qd,Qe] <;>rfl)|(simp [*,Qd,Qe] <;>rfl),by (with_reducible repeat (first|apply Kd.R_alloc|apply Kd.R_drewN|apply Kd.R_drew));exact Kd.R_mono (Kd.R_far (p:=⟨gb172,0,none⟩) (Kd.R_far (p:=⟨gb193,0,none⟩) (Kd.R_types (Kd.R_types HO191.out BK193.out (by decide)) BK172.out (by decide)) (fun _ hk=>hk.1.2) (.slice Ao25 t189.length co25)) (fun _ hk=>hk.2) (.slice Ao25 t189.length co25)) (fun _ hk=>trivial),by repeat (first|(with_reducible first|exact HI0.out|apply Qb.alloc|apply Qb.drewN|apply Qb.drew|apply Qb.set_1|apply Qb.set_2|refine Qb.far ?_ NB0_172.out _|refine Qb.far ?_ NB0_193.out _)|exact HI0.out),by repeat (first|(with_reducible first|exact HB.out|apply Qo|apply Qq|apply Qy|refine Q4 ?_ (Qb.ge HI0.out)|refine Q4 ?_ GE172.out|refine Q4 ?_ GE193.out)|exact HB.out),by repeat (first|(with_reducible first|exact HK.out|apply Qg.set_|apply Qfa|apply Qeo|apply Qe9|refine Qgj ?_ GW172.out _|refine Qgj ?_ GW193.out _)|exact HK.out)⟩
  ·
   rw [if_neg c17] at H;have c17b0:(t173==1)=false:=beq_eq_false_iff_ne.mpr c17;have c17b1:(t173 !=1)=true:=bne_iff_ne.mpr c17
   by_cases c31:t173=2
   ·
    rw [if_pos c31] at H;have c31b0:(t173==2)=true:=beq_iff_eq.mpr c31;have c31b1:(t173 !=2)=false:=bne_eq_false_iff_eq.mpr c31;clear c31;obtain ⟨⟨t194,t195,t196⟩,A32,H⟩:=bs H;(try dsimp only at H)
    obtain ⟨⟨t197,t200⟩,A33,H⟩:=bs H;(try dsimp only at H)
    simp only [Option.some.injEq,Prod.mk.injEq] at H;obtain ⟨rfl,rfl,rfl⟩:=H;go_enter Tryz.func286,Tryz.ntmps286;go_wp2_with (first|(refine bE (N:=4) (cs:= #[.slice none 0 0]) (t:=26) ?_;intro gb172 hg w34 hbox hb;replace HB:=Aside0.mk (Qa (uB HB) hb);have BK172:=Aside0.mk (hbox);have GW172:=Aside0.mk ((gW hg (uP HK)));have GE172:=Aside0.mk ((Nat.le_trans HW0.out (gW hg (uP HK))));replace HK:=Aside0.mk (Qg.trans (uP HK) (Qg.of_below hb g none) (.inl rfl));have NB0_172:=Aside0.mk ((nL hg (Qb.lt (Qb.u HI0))));have NB172_0:=Aside0.mk ((nG hg (Qb.lt (Qb.u HI0))));replace HI0:=Aside0.mk (Qb.below (Qb.u HI0) hb);clear hb hbox hg)|(refine gA (some 14) Tryz.func162 #[.pointer (some ⟨g,0,none⟩), .int .i64 5] ?_;(with_reducible refine (Qz.calls g s0_0 s0_1 s0_2 5 t173 t174 t175 w0 _ (Qb.u HI0) (uB HB) A3.out).mono ?_);rintro e w35 ⟨rfl,hi,hb,hk⟩;refine ⟨_,rfl,?_⟩;replace BK172:=Aside0.mk (Qg.blk hk (g':=gb172) (o:= .cells #[.slice none 0 0] 26 (0,0)) (uK BK172) NB172_0.out (by simp));replace HK:=Aside0.mk (Qg.trans (uP HK) hk (.inl rfl));replace HB:=Aside0.mk (hb);replace HI0:=Aside0.mk (hi);(try clear hb hk hi))|(refine gA (some 42) Tryz.func162 #[.pointer (some ⟨g,0,none⟩), .int .i64 a1] ?_;(with_reducible refine (Qz.calls g s0_0 t174 t175 a1 t194 t195 t196 w0 _ (Qb.u HI0) (uB HB) A32.out).mono ?_);rintro e w36 ⟨rfl,hi,hb,hk⟩;refine ⟨_,rfl,?_⟩;replace BK172:=Aside0.mk (Qg.blk hk (g':=gb172) (o:= .cells #[.slice none 0 0] 26 (0,0)) (uK BK172) NB172_0.out (by simp));replace HK:=Aside0.mk (Qg.trans (uP HK) hk (.inl rfl));replace HB:=Aside0.mk (hb);replace HI0:=Aside0.mk (hi);(try clear hb hk hi))|(refine gA (some 44) Tryz.func336 #[.int .i64 (wrap64 (1+t194))] ?_;(with_reducible refine (Qcm.calls k (wrap64 (1+t194)) t197 t200 _ A33.out).mono ?_);rintro e w37 ⟨v198,rfl,ho0,hb⟩;refine ⟨_,rfl,?_⟩;have HO199:=Aside0.mk (Kd.R_lower ho0 (Qb3 (w:=w) (g:=g) (row:=none) (uP HK)));replace HI0:=Aside0.mk (Qb.below (Qb.u HI0) hb);replace BK172:=Aside0.mk (Qc (uK BK172) hb);replace HK:=Aside0.mk (Qg.trans (uP HK) (Qg.of_below hb g none) (.inl rfl));replace HB:=Aside0.mk (Qa (uB HB) hb);(try clear hb ho0))|(refine bE (N:=7) (cs:= #[.slice none 0 0]) (t:=26) ?_;intro gb201 hg w38 hbox hb;replace HO199:=Aside0.mk (Kd.R_below (uR HO199) hb);replace HB:=Aside0.mk (Qa (uB HB) hb);have BK201:=Aside0.mk (hbox);have GW201:=Aside0.mk ((by rw [hg];exact (Qb3 (w:=w) (g:=g) (row:=none) (uP HK)):w.heap.size≤gb201));have GE201:=Aside0.mk ((Nat.le_trans HW0.out (by rw [hg];exact (Qb3 (w:=w) (g:=g) (row:=none) (uP HK)):w.heap.size≤gb201):w0.heap.size≤gb201));replace HK:=Aside0.mk (Qg.trans (uP HK) (Qg.of_below hb g none) (.inl rfl));have NB172_201:=Aside0.mk ((nL hg (Qcc (uK BK172))));have NB201_172:=Aside0.mk ((nG hg (Qcc (uK BK172))));replace BK172:=Aside0.mk (Qc (uK BK172) hb);have NB0_201:=Aside0.mk ((nL hg (Qb.lt (Qb.u HI0))));have NB201_0:=Aside0.mk ((nG hg (Qb.lt (Qb.u HI0))));replace HI0:=Aside0.mk (Qb.below (Qb.u HI0) hb);clear hb hbox hg;obtain ⟨Ao39,co39,eo39⟩:=Kd.R_slice HO199.out;subst eo39;have hnb40:=NB201_172.out;have hnc40:=NB172_201.out;have hnb41:=NB201_0.out;have hnc41:=NB0_201.out;have hcz42_0:=bC BK201;have hfz42_0:=Qf BK201.out 0;have hnb43:=NB172_0.out;have hnc43:=NB0_172.out;have hcz44_0:=bC BK172;have hfz44_0:=Qf BK172.out 0));refine bodyPost_ret (results_cell_row rfl _ _ gb172 26 #[.slice Ao39 t197.length co39] (0,0) _ rfl (by (with_reducible repeat (first|refine Qk ?_ _|refine Qj ?_|refine Qi ?_ _));refine Qcs (cs:= #[.slice none 0 0]) ?_ 0 _ rfl;(with_reducible repeat (first|refine Qk ?_ _|refine Qj ?_|refine Qi ?_ _));refine Qd8 ?_ NB172_201.out _;(with_reducible repeat (first|refine Qk ?_ _|refine Qj ?_|refine Qi ?_ _));exact BK172.out) Tryz.underlying26 rfl (by kernel_rfl)) rfl ?_;exact ⟨_,by first|rfl|(simp [Qd,Qe] <;>rfl)|(simp [*,Qd,Qe] <;>rfl),by (with_reducible repeat (first|apply Kd.R_alloc|apply Kd.R_drewN|apply Kd.R_drew));exact Kd.R_mono (Kd.R_far (p:=⟨gb172,0,none⟩) (Kd.R_far (p:=⟨gb201,0,none⟩) (Kd.R_types (Kd.R_types HO199.out BK201.out (by decide)) BK172.out (by decide)) (fun _ hk=>hk.1.2) (.slice Ao39 t197.length co39)) (fun _ hk=>hk.2) (.slice Ao39 t197.length co39)) (fun _ hk=>trivial),by repeat (first|(with_reducible first|exact HI0.out|apply Qb.alloc|apply Qb.drewN|apply Qb.drew|apply Qb.set_1|apply Qb.set_2|refine Qb.far ?_ NB0_172.out _|refine Qb.far ?_ NB0_201.out _)|exact HI0.out),by repeat (first|(with_reducible first|exact HB.out|apply Qo|apply Qq|apply Qy|refine Q4 ?_ (Qb.ge HI0.out)|refine Q4 ?_ GE172.out|refine Q4 ?_ GE201.out)|exact HB.out),by repeat (first|(with_reducible first|exact HK.out|apply Qg.set_|apply Qfa|apply Qeo|apply Qe9|refine Qgj ?_ GW172.out _|refine Qgj ?_ GW201.out _)|exact HK.out)⟩
   ·
    rw [if_neg c31] at H;have c31b0:(t173==2)=false:=beq_eq_false_iff_ne.mpr c31;have c31b1:(t173 !=2)=true:=bne_iff_ne.mpr c31;obtain ⟨⟨t202,t203,t204⟩,A45,H⟩:=bs H;(try dsimp only at H)
    obtain ⟨⟨t205,t206,t207⟩,A46,H⟩:=bs H;(try dsimp only at H)
    have H':=Aside0.mk H;clear H;go_enter Tryz.func286,Tryz.ntmps286;go_wp2_with (first|(refine bE (N:=4) (cs:= #[.slice none 0 0]) (t:=26) ?_;intro gb172 hg w47 hbox hb;replace HB:=Aside0.mk (Qa (uB HB) hb);have BK172:=Aside0.mk (hbox);have GW172:=Aside0.mk ((gW hg (uP HK)));have GE172:=Aside0.mk ((Nat.le_trans HW0.out (gW hg (uP HK))));replace HK:=Aside0.mk (Qg.trans (uP HK) (Qg.of_below hb g none) (.inl rfl));have NB0_172:=Aside0.mk ((nL hg (Qb.lt (Qb.u HI0))));have NB172_0:=Aside0.mk ((nG hg (Qb.lt (Qb.u HI0))));replace HI0:=Aside0.mk (Qb.below (Qb.u HI0) hb);clear hb hbox hg)|(refine gA (some 14) Tryz.func162 #[.pointer (some ⟨g,0,none⟩), .int .i64 5] ?_;(with_reducible refine (Qz.calls g s0_0 s0_1 s0_2 5 t173 t174 t175 w0 _ (Qb.u HI0) (uB HB) A3.out).mono ?_);rintro e w48 ⟨rfl,hi,hb,hk⟩;refine ⟨_,rfl,?_⟩;replace BK172:=Aside0.mk (Qg.blk hk (g':=gb172) (o:= .cells #[.slice none 0 0] 26 (0,0)) (uK BK172) NB172_0.out (by simp));replace HK:=Aside0.mk (Qg.trans (uP HK) hk (.inl rfl));replace HB:=Aside0.mk (hb);replace HI0:=Aside0.mk (hi);(try clear hb hk hi))|(refine gA (some 50) Tryz.func162 #[.pointer (some ⟨g,0,none⟩), .int .i64 a1] ?_;(with_reducible refine (Qz.calls g s0_0 t174 t175 a1 t202 t203 t204 w0 _ (Qb.u HI0) (uB HB) A45.out).mono ?_);rintro e w49 ⟨rfl,hi,hb,hk⟩;refine ⟨_,rfl,?_⟩;replace BK172:=Aside0.mk (Qg.blk hk (g':=gb172) (o:= .cells #[.slice none 0 0] 26 (0,0)) (uK BK172) NB172_0.out (by simp));replace HK:=Aside0.mk (Qg.trans (uP HK) hk (.inl rfl));replace HB:=Aside0.mk (hb);replace HI0:=Aside0.mk (hi);(try clear hb hk hi))|(refine gA (some 55) Tryz.func162 #[.pointer (some ⟨g,0,none⟩), .int .i64 (wrap64 (2*(wrap64 (1+t202))))] ?_;(with_reducible refine (Qz.calls g s0_0 t203 t204 (wrap64 (2*(wrap64 (1+t202)))) t205 t206 t207 w0 _ (Qb.u HI0) (uB HB) A46.out).mono ?_);rintro e w50 ⟨rfl,hi,hb,hk⟩;refine ⟨_,rfl,?_⟩;replace BK172:=Aside0.mk (Qg.blk hk (g':=gb172) (o:= .cells #[.slice none 0 0] 26 (0,0)) (uK BK172) NB172_0.out (by simp));replace HK:=Aside0.mk (Qg.trans (uP HK) hk (.inl rfl));replace HB:=Aside0.mk (hb);replace HI0:=Aside0.mk (hi);(try clear hb hk hi)))
    go_loopg [10,11] k (fun kq v10 v11 w'=> ∃ (x10_1:List (List Int)) (x11_1:Int) (x1001_1:Int) (x1002_1:Int),v11= .int .i64 x11_1∧Aside0 (Qr.l0 kq (wrap64 (1+t202)) x10_1 x11_1 s0_0 x1001_1 x1002_1=some (r1,r2,r3))∧Aside0 (kq≤k)∧Aside0 (Kd.S (Kd.slice 3 (Kd.int .i64)) 24 w' w.heap.size (fun _=>True) v10 x10_1)∧Aside0 (w'.heap[gb172]? =some (.cells #[(.slice none 0 0)] 26 (0,0)))∧Aside0 (Qb w0 w' g s0_0 x1001_1 x1002_1)∧Aside0 (Qg w w' g none)∧Aside0 (Below w0.heap.size w0 w'))
    case atStart=>exact ⟨(([] :List (List Int))),(t205),(t206),(t207),(by first|rfl|(simp;done)|(simp [*];done)),H',⟨Nat.le_refl _⟩,⟨by first|exact Kd.S_nil _ _ _ _ _|exact Kd.N_nil _ _ _ _ _|exact Kd.V_nil _ _ _ _ _|exact Kd.Q_nil _ _ _ _ _|exact Kd.R_nil _ _ _ _ _⟩,⟨uK BK172⟩,⟨Qb.u HI0⟩,⟨uP HK⟩,⟨uB HB⟩⟩
    case round=>
     clear H'
     try clear c1
     try clear c2
     try clear p2
     try clear c3
     try clear c4
     try clear c4b0
     try clear c4b1
     try clear p6
     try clear c15
     try clear c16
     try clear c17
     try clear c17b0
     try clear c17b1
     try clear c20
     try clear c26
     try clear c27
     try clear c28
     try clear c29
     try clear c31
     try clear c31b0
     try clear c31b1
     try clear c33
     try clear c40
     try clear c41
     try clear c43
     try clear hcz16_0
     try clear hcz28_0
     try clear hcz30_0
     try clear hcz42_0
     try clear hcz44_0
     try clear hfz16_0
     try clear hfz28_0
     try clear hfz30_0
     try clear hfz42_0
     try clear hfz44_0
     obtain ⟨x10_1,x11_1,x1001_1,x1002_1,rfl,HA,HK1,HO_10,BK172,HI0,HK,HB⟩:=hrel;cases gk with
     |zero=>exact absurd HA.out (by simp [Qr.l0])
     |succ k1=>
      have H:=HA.out;clear HA;simp only [Qr.l0] at H;have HC51:=Aside0.mk H;clear H;go_upto_region 13 with (fail)
      go_cut [61] (fun v61 wc=> ∃ (kq:Nat) (x61_50:Bool),v61= .bool x61_50∧Aside0 (Qr.j1 kq (wrap64 (1+t202)) x10_1 x11_1 x61_50 s0_0 x1001_1 x1002_1=some (r1,r2,r3))∧Aside0 (kq≤k1)∧Aside0 (Kd.S (Kd.slice 3 (Kd.int .i64)) 24 wc w.heap.size (fun _=>True) u10 x10_1)∧Aside0 (wc.heap[gb172]? =some (.cells #[(.slice none 0 0)] 26 (0,0)))∧Aside0 (Qb w0 wc g s0_0 x1001_1 x1002_1)∧Aside0 (Qg w wc g none)∧Aside0 (Below w0.heap.size w0 wc))
      case first=>
       have H:=HC51.out;clear HC51
       by_cases c52:x11_1>0
       ·
        rw [if_pos c52] at H;have c52b0:=decide_eq_true c52;clear c52
        (first|rw [c52b0] |(simp only [Qcu,Qef];rw [c52b0])|skip)
        have H':=Aside0.mk H;clear H;go_wp2
        go_meet
        case rel=>exact ⟨_,(decide ((wrap64 (1+t202))>1)),(by first|rfl|(simp;done)|(simp [*];done)),H',⟨by have:=HK1.out;first|omega|exact Nat.le_refl _⟩,⟨uS HO_10⟩,⟨uK BK172⟩,⟨Qb.u HI0⟩,⟨uP HK⟩,⟨uB HB⟩⟩
       ·
        rw [if_neg c52] at H;have c52b0:=decide_eq_false c52;clear c52
        (first|rw [c52b0] |(simp only [Qcu,Qef];rw [c52b0])|skip)
        have H':=Aside0.mk H;clear H;go_wp2
        go_meet
        case rel=>exact ⟨_,(false),(by first|rfl|(simp;done)|(simp [*];done)),H',⟨by have:=HK1.out;first|omega|exact Nat.le_refl _⟩,⟨uS HO_10⟩,⟨uK BK172⟩,⟨Qb.u HI0⟩,⟨uP HK⟩,⟨uB HB⟩⟩
      case rest=>
       clear HC51
       try clear c1
       try clear c2
       try clear p2
       try clear c3
       try clear c4
       try clear c4b0
       try clear c4b1
       try clear c5
       try clear p6
       try clear c15
       try clear c16
       try clear c17
       try clear c17b0
       try clear c17b1
       try clear c20
       try clear c26
       try clear c27
       try clear c28
       try clear c29
       try clear c31
       try clear c31b0
       try clear c31b1
       try clear c33
       try clear c40
       try clear c41
       try clear c43
       try clear c52
       try clear c52b0
       try clear hcz16_0
       try clear hcz28_0
       try clear hcz30_0
       try clear hcz42_0
       try clear hcz44_0
       try clear hfz16_0
       try clear hfz28_0
       try clear hfz30_0
       try clear hfz42_0
       try clear hfz44_0
       try clear p2
       try clear p6
       obtain ⟨kq,x61_50,rfl,HA,HJ50,HO_10,BK172,HI0,HK,HB⟩:=hcut;cases kq with
       |zero=>exact absurd HA.out (by simp [Qr.j1])
       |succ kj50=>
        have H:=HA.out;clear HA;simp only [Qr.j1] at H
        by_cases c53:x61_50=true
        ·
         subst c53;rw [if_pos rfl] at H;obtain ⟨⟨t208,t209,t210⟩,A54,H⟩:=bs H;(try dsimp only at H)
         obtain ⟨⟨t211,t212,t213⟩,A55,H⟩:=bs H;(try dsimp only at H)
         obtain ⟨y214,hy214⟩: ∃ y_:List Int,y_=(([t208,wrap64 ((wrap64 (t208+1))+t211)] :List Int)):=⟨_,rfl⟩
         replace H:(if x10_1.length<5864062014805 then (Qr.l0 kj50 (wrap64 (1+t202)) (x10_1++ [y214]) (wrap64 (x11_1 - 1)) s0_0 t212 t213) else (none))=some (r1,r2,r3):=by first|(rw [hy214];with_reducible exact H)|(have H2_:=(Option.bind_some _ _).symm.trans H;rw [hy214];with_reducible exact H2_)|(have H2_:=(Option.bind_some _ _).symm.trans H;with_reducible exact H2_)|with_reducible exact H|(rw [hy214];exact H)|exact H
         have Ny214:=Aside0.mk hy214;clear hy214
         by_cases c56:x10_1.length<5864062014805
         ·
          rw [if_pos c56] at H;have LMc56:=Aside0.mk c56;clear c56;obtain ⟨y217,hy217⟩: ∃ y_:List (List Int),y_=(x10_1++ [y214]):=⟨_,rfl⟩
          replace H:(Qr.l0 kj50 (wrap64 (1+t202)) y217 (wrap64 (x11_1 - 1)) s0_0 t212 t213)=some (r1,r2,r3):=by first|(rw [hy217];with_reducible exact H)|(have H2_:=(Option.bind_some _ _).symm.trans H;rw [hy217];with_reducible exact H2_)|(have H2_:=(Option.bind_some _ _).symm.trans H;with_reducible exact H2_)|with_reducible exact H|(rw [hy217];exact H)|exact H
          have Ny217:=Aside0.mk hy217;clear hy217;have H':=Aside0.mk H;clear H;go_wp2_with (first|(refine gA (some 67) Tryz.func162 #[.pointer (some ⟨g,0,none⟩), .int .i64 (wrap64 ((wrap64 (1+t202)) - 1))] ?_;(with_reducible refine (Qz.calls g s0_0 x1001_1 x1002_1 (wrap64 ((wrap64 (1+t202)) - 1)) t208 t209 t210 w0 _ (Qb.u HI0) (uB HB) A54.out).mono ?_);rintro e w57 ⟨rfl,hi,hb,hk⟩;refine ⟨_,rfl,?_⟩;replace HO_10:=Aside0.mk (Kd.S_mono (Kd.S_keep (Qb.apartS (show Qb w0 _ g s0_0 x1001_1 x1002_1 from Qb.u HI0) (uS HO_10) (by decide)) hk (fun _ h=>h.2)) (fun _ h=>h.1));replace BK172:=Aside0.mk (Qg.blk hk (g':=gb172) (o:= .cells #[.slice none 0 0] 26 (0,0)) (uK BK172) NB172_0.out (by simp));replace HK:=Aside0.mk (Qg.trans (uP HK) hk (.inl rfl));replace HB:=Aside0.mk (hb);replace HI0:=Aside0.mk (hi);(try clear hb hk hi))|(refine gA (some 77) Tryz.func162 #[.pointer (some ⟨g,0,none⟩), .int .i64 (wrap64 ((wrap64 ((wrap64 (1+t202)) - 1)) - t208))] ?_;(with_reducible refine (Qz.calls g s0_0 t209 t210 (wrap64 ((wrap64 ((wrap64 (1+t202)) - 1)) - t208)) t211 t212 t213 w0 _ (Qb.u HI0) (uB HB) A55.out).mono ?_);rintro e w58 ⟨rfl,hi,hb,hk⟩;refine ⟨_,rfl,?_⟩;replace HO_10:=Aside0.mk (Kd.S_mono (Kd.S_keep (Qb.apartS (show Qb w0 _ g s0_0 t209 t210 from Qb.u HI0) (uS HO_10) (by decide)) hk (fun _ h=>h.2)) (fun _ h=>h.1));replace BK172:=Aside0.mk (Qg.blk hk (g':=gb172) (o:= .cells #[.slice none 0 0] 26 (0,0)) (uK BK172) NB172_0.out (by simp));replace HK:=Aside0.mk (Qg.trans (uP HK) hk (.inl rfl));replace HB:=Aside0.mk (hb);replace HI0:=Aside0.mk (hi);(try clear hb hk hi))|((with_reducible refine Qc0 (N:=79) rfl ?_);refine Kd.R_lit (Kd.int .i64) _ 3 ?hg (N:=79) ?hd (xs:=([t208,wrap64 ((wrap64 (t208+1))+t211)] :List Int)) (inner:= [.int .i64 t208, .int .i64 (wrap64 ((wrap64 (t208+1))+t211))]) (ok:=fun _=>True) (okp:=fun _=>True) ?hr ?hp (fun _ hk=>hk) trivial (Below.refl _ _) (Nat.le_refl _) (by simp) ?_;(case hd=>rfl);(case hg=>rfl);(case hr=>first|(go_simp;done)|(go_simp;rfl));(case hp=>exact (Reps.one (show Kd.M (Kd.int .i64) _ _ _ t208 [.int .i64 t208] from rfl) (Reps.one (show Kd.M (Kd.int .i64) _ _ _ (wrap64 ((wrap64 (t208+1))+t211)) [.int .i64 (wrap64 ((wrap64 (t208+1))+t211))] from rfl) (Reps.none _ _))));intro v215 w59 ho60 hb hg_ hnew_;clear hg_ hnew_;(first|rw [←Ny214.out] at ho60|(simp only [Int.reduceToNat] at ho60;rw [←Ny214.out] at ho60));replace HO_10:=Aside0.mk (Kd.S_elder' (uS HO_10) (Kd.R_base ho60) hb);have HO216:=Aside0.mk (Kd.R_lower ho60 (Qb3 (w:=w) (g:=g) (row:=none) (uP HK)));replace BK172:=Aside0.mk (Qc (uK BK172) hb);replace HI0:=Aside0.mk (Qb.below (Qb.u HI0) hb);replace HK:=Aside0.mk (Qg.trans (uP HK) (Qg.of_below hb g none) (.inl rfl));replace HB:=Aside0.mk (Qa (uB HB) hb);clear hb ho60;obtain ⟨Ao62,co62,eo62⟩:=Kd.R_slice HO216.out;subst eo62)|((with_reducible refine Qc4 (b:= .append) (xs:= #[.tmp 68, .tmp 80]) rfl ?_);at_builtin;refine Kd.S_append (Kd.slice 3 (Kd.int .i64)) w.heap.size rfl (.tmp 68) (.tmp 80) 40 24 (.slice none 0 0) 24 rfl Tryz.underlying40 Qfw rfl (by decide) (by omega) u10 x10_1 y214 [.slice Ao62 y214.length co62] (fun _=>True) (fun k_=>some k_=(.slice Ao62 y214.length co62:Value).ownBlock) rfl rfl ?aP (fun k_ hk_=>((Kd.R_mono (ok':=fun k_=>((fun _=>True)) k_∧some k_≠(u10:Value).ownBlock) (Kd.R_apart' (HO216.out) (Kd.S_typed HO_10.out) (by decide)) (fun k_ hk=>⟨trivial,hk.2⟩))).1 k_ hk_.symm) ?aF ?aO (Below.refl _ _) ?aS ?aL ?_;(case aP=>exact Kd.M_row (Kd.R_mono (Kd.R_tight rfl (Kd.R_mono (ok':=fun k_=>((fun _=>True)) k_∧some k_≠(u10:Value).ownBlock) (Kd.R_apart' (HO216.out) (Kd.S_typed HO_10.out) (by decide)) (fun k_ hk=>⟨trivial,hk.2⟩))) (fun _ h_=>h_)));(case aF=>exact (fun _ _=>trivial));(case aO=>exact (by (with_reducible repeat (first|apply Kd.S_alloc|apply Kd.S_drewN|apply Kd.S_drew));exact Kd.S_mono HO_10.out (fun k_ hk=>⟨trivial,fun e_=>hk.2 e_⟩)));(case aS=>exact (Qb3 (w:=w) (g:=g) (row:=none) (uP HK)));(case aL=>have:=LMc56.out;omega);intro v218 w61 ho hb hg hat;rw [←Ny217.out] at ho;replace BK172:=Aside0.mk (Qds (uK BK172) hg (Kd.S_ne HO_10.out BK172.out (by decide)));replace HI0:=Aside0.mk (Qb.grown (Qb.u HI0) hg (Qb.own_neS HI0.out HO_10.out (by decide)));replace HB:=Aside0.mk (Qjf (uB HB) HL.out hb);replace HK:=Aside0.mk (Qg.trans (uP HK) (Qg.of_grown hg g) (Kd.S_base2 HO_10.out));have HO219:=Aside0.mk (ho);clear HO_10 HO216;clear ho hb hg hat));go_roundg kj50
          case measure=>have:=HK1.out;have:=HJ50.out;omega
          case rel=>exact ⟨(y217),(wrap64 (x11_1 - 1)),(t212),(t213),(by first|rfl|(simp;done)|(simp [*];done)),H',⟨by have:=HK1.out;have:=HJ50.out;omega⟩,⟨uS HO219⟩,⟨uK BK172⟩,⟨Qb.u HI0⟩,⟨uP HK⟩,⟨uB HB⟩⟩
         ·
          rw [if_neg c56] at H;exact absurd H (by simp)
        ·
         replace c53:=Bool.eq_false_iff.mpr c53;subst c53;rw [if_neg (show ¬ (false=true) by decide)] at H;obtain ⟨t220,A63,H⟩:=bs H;(try dsimp only at H)
         simp only [Option.some.injEq,Prod.mk.injEq] at H;obtain ⟨rfl,rfl,rfl⟩:=H;obtain ⟨Ao64,co64,eo64⟩:=Kd.S_slice HO_10.out;subst eo64;go_wp2_with (first|(refine gA (some 84) Tryz.func163 #[.int .i64 (wrap64 (1+t202)), .slice Ao64 x10_1.length co64] ?_;(with_reducible refine (Qbg.calls kj50 (wrap64 (1+t202)) _ _ x10_1 t220 _ ?side1 ?side2 A63.out).mono ?_);(case side1=>repeat (first|exact (Kd.S_reads' HO_10.out).2.2|(with_reducible refine Kd.C_alloc ?_ _)|(with_reducible refine Kd.C_drewN ?_ _)|(with_reducible refine Kd.C_drew ?_)));(case side2=>exact (Kd.S_reads' HO_10.out).2.1);rintro e w65 ⟨v221,rfl,ho0,hb⟩;refine ⟨_,rfl,?_⟩;replace HO_10:=Aside0.mk (Kd.S_elder' (uS HO_10) (Kd.R_base ho0) hb);have HO222:=Aside0.mk (Kd.R_lower ho0 (Qb3 (w:=w) (g:=g) (row:=none) (uP HK)));replace BK172:=Aside0.mk (Qc (uK BK172) hb);replace HI0:=Aside0.mk (Qb.below (Qb.u HI0) hb);replace HK:=Aside0.mk (Qg.trans (uP HK) (Qg.of_below hb g none) (.inl rfl));replace HB:=Aside0.mk (Qa (uB HB) hb);(try clear hb ho0);obtain ⟨Ao66,co66,eo66⟩:=Kd.R_slice HO222.out;subst eo66;have hnb67:=NB172_0.out;have hnc67:=NB0_172.out;have hcz68_0:=bC BK172;have hfz68_0:=Qf BK172.out 0));refine bodyPost_ret (results_cell_row rfl _ _ gb172 26 #[.slice Ao66 t220.length co66] (0,0) _ rfl (by (with_reducible repeat (first|refine Qk ?_ _|refine Qj ?_|refine Qi ?_ _));refine Qcs (cs:= #[.slice none 0 0]) ?_ 0 _ rfl;(with_reducible repeat (first|refine Qk ?_ _|refine Qj ?_|refine Qi ?_ _));exact BK172.out) Tryz.underlying26 rfl (by kernel_rfl)) rfl ?_;exact ⟨_,by first|rfl|(simp [Qd,Qe] <;>rfl)|(simp [*,Qd,Qe] <;>rfl),by (with_reducible repeat (first|apply Kd.R_alloc|apply Kd.R_drewN|apply Kd.R_drew));exact Kd.R_mono (Kd.R_far (p:=⟨gb172,0,none⟩) (Kd.R_types HO222.out BK172.out (by decide)) (fun _ hk=>hk.2) (.slice Ao66 t220.length co66)) (fun _ hk=>trivial),by repeat (first|(with_reducible first|exact HI0.out|apply Qb.alloc|apply Qb.drewN|apply Qb.drew|apply Qb.set_1|apply Qb.set_2|refine Qb.far ?_ NB0_172.out _)|exact HI0.out),by repeat (first|(with_reducible first|exact HB.out|apply Qo|apply Qq|apply Qy|refine Q4 ?_ (Qb.ge HI0.out)|refine Q4 ?_ GE172.out)|exact HB.out),by repeat (first|(with_reducible first|exact HK.out|apply Qg.set_|apply Qfa|apply Qeo|apply Qe9|refine Qgj ?_ GW172.out _)|exact HK.out)⟩
def Qdf.f (s0_0 : List Int) (s0_1 : Int) (s0_2 : Int) (l1 : List Int) : Option (Int × Int × Int) := (Qz.f s0_0 s0_1 s0_2 (l1.length : Int)).bind fun bt111 => (if 0 ≤ bt111.1 then (if bt111.1 < (l1.length : Int) then (some (rd l1 bt111.1, bt111.2.1, bt111.2.2)) else (none)) else (none))
set_option maxHeartbeats 8000000 in
set_option maxRecDepth 100000 in
theorem Qdf.calls (g : Nat) (s0_0 : List Int) (s0_1 : Int) (s0_2 : Int) (A1 : Option Addr) (c1 : Nat) (l1 : List Int) (r1 : Int) (r2 : Int) (r3 : Int) (w0 w : World) (hI : Qb w0 w g s0_0 s0_1 s0_2) (hB : Below w0.heap.size w0 w) (hr1 : Kd.C (Kd.int .i64) w A1 l1.length l1) (hc1 : l1.length ≤ c1) (hf1 : ∀ ad, A1 = some ad → 0 < l1.length → ad.block ≠ g) (h : Qdf.f s0_0 s0_1 s0_2 l1 = some (r1, r2, r3)) :
 Calls Tryz.prog 190 #[.pointer (some ⟨g,0,none⟩), .slice A1 l1.length c1] w fun e w'=>e= .returned (.int .i64 r1)∧Qb w0 w' g s0_0 r2 r3∧Below w0.heap.size w0 w'∧Qg w w' g none:=by
 have HR1:=Aside0.mk hr1;have HC1:=Aside0.mk hc1;clear hr1 hc1;have HI0:=Aside0.mk hI;have HK:=Aside0.mk (Qg.refl w g none);have HL:=Aside0.mk hB.size;clear hI;have HW0:=Aside0.mk hB.size;have HB:=Aside0.mk hB;clear hB;have H:((Qz.f s0_0 s0_1 s0_2 (l1.length:Int)).bind fun bt111=>(if 0≤bt111.1 then (if bt111.1<(l1.length:Int) then (some (rd l1 bt111.1,bt111.2.1,bt111.2.2)) else (none)) else (none)))=some (r1,r2,r3):=h;clear h;obtain ⟨⟨t111,t112,t113⟩,A3,H⟩:=bs H;(try dsimp only at H)
 by_cases c4:0≤t111
 ·
  rw [if_pos c4] at H;have c4b0:=decide_eq_true c4;clear c4
  by_cases c5:t111<(l1.length:Int)
  ·
   rw [if_pos c5] at H;have c5b0:=decide_eq_true c5;clear c5;simp only [Option.some.injEq,Prod.mk.injEq] at H;obtain ⟨rfl,rfl,rfl⟩:=H;go_enter Tryz.func190,Tryz.ntmps190;go_wp2_with (first|(refine gA (some 9) Tryz.func162 #[.pointer (some ⟨g,0,none⟩), .int .i64 (l1.length:Int)] ?_;(with_reducible refine (Qz.calls g s0_0 s0_1 s0_2 (l1.length:Int) t111 t112 t113 w0 _ (Qb.u HI0) (uB HB) A3.out).mono ?_);rintro e w6 ⟨rfl,hi,hb,hk⟩;refine ⟨_,rfl,?_⟩;replace HK:=Aside0.mk (Qg.trans (uP HK) hk (.inl rfl));replace HB:=Aside0.mk (hb);replace HI0:=Aside0.mk (hi);(try clear hb hk hi);have p114:0≤(t111:Int):=of_decide_eq_true (by first|(with_reducible assumption)|assumption);have q114:t111<(l1.length:Int):=of_decide_eq_true (by first|(with_reducible assumption)|assumption);obtain ⟨ad114,e114,hx114_0⟩:=Kd.at_int HR1.out t111 p114 q114;cases e114;replace hx114_0:=Qjn HK.out hx114_0 (by first|(rw [Qje];exact hf1 _ rfl (by omega))|exact hf1 _ rfl (by omega)|exact hf1 ad114 rfl (by omega));replace p114:=eq_true p114;replace q114:=eq_true q114))
   go_ret
   exact ⟨by first|rfl|(simp [Qd,Qe] <;>rfl)|(simp [*,Qd,Qe] <;>rfl),Qb.u HI0,uB HB,uP HK⟩
  ·
   rw [if_neg c5] at H;exact absurd H (by simp)
 ·
  rw [if_neg c4] at H;exact absurd H (by simp)
def Qe1.f (l0 : List Int) : Option (List Int) := (some (([] : List Int) : List Int)).bind fun y115 => (if y115.length + l0.length < 17592186044416 then (some (y115 ++ l0)) else (none))
set_option maxHeartbeats 8000000 in
set_option maxRecDepth 100000 in
theorem Qe1.calls (A0 : Option Addr) (c0 : Nat) (l0 : List Int) (r : List Int) (w : World) (hr0 : Kd.C (Kd.int .i64) w A0 l0.length l0) (hc0 : l0.length ≤ c0) (h : Qe1.f l0 = some r) :
 Calls Tryz.prog 273 #[.slice A0 l0.length c0] w fun e w'=> ∃ v0_:Value,e= .returned (v0_)∧Kd.R (Kd.int .i64) 3 w' w.heap.size (fun _=>True) v0_ r∧Below w.heap.size w w':=by
 have HR0:=Aside0.mk hr0;have HC0:=Aside0.mk hc0;clear hr0 hc0;have HB:=Aside0.mk (Below.refl w.heap.size w);have H:((some (([] :List Int):List Int)).bind fun y115=>(if y115.length+l0.length<17592186044416 then (some (y115++l0)) else (none)))=some r:=h;clear h;obtain ⟨y115,hy115⟩: ∃ y_:List Int,y_=(([] :List Int)):=⟨_,rfl⟩
 replace H:(if y115.length+l0.length<17592186044416 then (some (y115++l0)) else (none))=some r:=by first|(rw [hy115];with_reducible exact H)|(have H2_:=(Option.bind_some _ _).symm.trans H;rw [hy115];with_reducible exact H2_)|(have H2_:=(Option.bind_some _ _).symm.trans H;with_reducible exact H2_)|with_reducible exact H|(rw [hy115];exact H)|exact H
 have Ny115:=Aside0.mk hy115;clear hy115
 by_cases c2:y115.length+l0.length<17592186044416
 ·
  rw [if_pos c2] at H;have LMc2:=Aside0.mk c2;clear c2;obtain ⟨y118,hy118⟩: ∃ y_:List Int,y_=(y115++l0):=⟨_,rfl⟩
  replace H:(some y118)=some r:=by first|(rw [hy118];with_reducible exact H)|(have H2_:=(Option.bind_some _ _).symm.trans H;rw [hy118];with_reducible exact H2_)|(have H2_:=(Option.bind_some _ _).symm.trans H;with_reducible exact H2_)|with_reducible exact H|(rw [hy118];exact H)|exact H
  have Ny118:=Aside0.mk hy118;clear hy118;obtain rfl:=Option.some.inj H;go_enter Tryz.func273,Tryz.ntmps273;go_wp2_with (first|((with_reducible refine Qc0 (N:=3) rfl ?_);refine Kd.R_lit (Kd.int .i64) _ 3 ?hg (N:=3) ?hd (xs:=([] :List Int)) (inner:= []) (ok:=fun _=>True) (okp:=fun _=>True) ?hr ?hp (fun _ hk=>hk) trivial (Below.refl _ _) (Nat.le_refl _) (by simp) ?_;(case hd=>rfl);(case hg=>rfl);(case hr=>first|(go_simp;done)|(go_simp;rfl));(case hp=>exact (Reps.none _ _));intro v116 w3 ho4 hb hg_ hnew_;clear hg_ hnew_;(first|rw [←Ny115.out] at ho4|(simp only [Int.reduceToNat] at ho4;rw [←Ny115.out] at ho4));have HO117:=Aside0.mk (Kd.R_lower ho4 (Qp (uB HB)));replace HB:=Aside0.mk (Qa (uB HB) hb);clear hb ho4)|((with_reducible refine Qc4 (b:= .append) (xs:= #[.tmp 3, .tmp 4]) rfl ?_);at_builtin;refine Kd.R_append_rows (Kd.int .i64) (w0:=w) w.heap.size rfl (.tmp 3) (.tmp 4) 24 3 (.int .i64 0) 8 rfl Tryz.underlying24 Qfm rfl (by decide) (by omega) v116 y115 l0 _ _ _ (fun _=>True) (fun _=>False) rfl rfl ?aO ?aR (fun _ _ h=>h) (fun _ h=>h.elim) ?aF ?aB ?aS ?aL ?_;(case aR=>repeat (first|exact (Kd.C_below HR0.out HB.out)|(with_reducible refine Kd.C_alloc ?_ _)|(with_reducible refine Kd.C_drewN ?_ _)|(with_reducible refine Kd.C_drew ?_)));(case aB=>exact (uB HB));(case aF=>exact (fun _ _=>trivial));(case aO=>exact (uR HO117));(case aS=>exact (Qp (uB HB)));(case aL=>have:=LMc2.out;omega);intro v119 w5 ho hb hg hat;rw [←Ny118.out] at ho;replace HB:=Aside0.mk (hb);have HO120:=Aside0.mk (ho);clear HO117;clear ho hb hg hat))
  go_ret
  exact ⟨_,by first|rfl|(simp [Qd,Qe] <;>rfl)|(simp [*,Qd,Qe] <;>rfl),uR HO120,uB HB⟩
 ·
  rw [if_neg c2] at H;exact absurd H (by simp)
end Go.Proofs.YtkgngggppcmpfaaGreat.L
end
