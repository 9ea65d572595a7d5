/- Laws about the given program: the law FnRowvacuation answers true for every input that its row lets in; no condition is added to the given statement. Contracts of the Go functions that it reaches, and the plain proof over lists. -/
import Derived.Test.YtkgngggppcmpfaaGreatWFnRowvacuation0
import Derived.Test.YtkgngggppcmpfaaGreatKFnRowvacuation0
import Derived.Test.YtkgngggppcmpfaaGreatKFnRowvacuation1
section
namespace Go.Proofs.YtkgngggppcmpfaaGreat.L
open Go.RowKit Go.Proofs.YtkgngggppcmpfaaGreatW.PrintWords Go.Proofs.YtkgngggppcmpfaaGreatW.PrintLast Go.Proofs.YtkgngggppcmpfaaGreatW.PrintMore Go.Proofs.YtkgngggppcmpfaaGreat.X
attribute [local go_sem] Qt Qv Q2 Q3 Qm Qn Qu Qw
set_option linter.unusedVariables false
set_option linter.unusedSimpArgs false
def Qbl.l0 : Nat → Int → List Int → Int → Int → List Int → Option (List Int × Int × Int)
 |0,_,_,_,_,_=>none
 |k+1,x7,x1000,x1001,x1002,x230000=>if x7<11 then (if x230000.length<17592186044416 then (Qbl.l0 k (wrap64 (x7+1)) x1000 x1001 x1002 (x230000++ [0])) else (none)) else (some (x230000,x1001,x1002))
def Qbl.f (k : Nat) (s0_0 : List Int) (s0_1 : Int) (s0_2 : Int) (a1 : Int) : Option (List Int × Int × Int) := (Qr.f k s0_0 s0_1 s0_2 a1).bind fun bt224 => ((Qe1.f bt224.1).bind fun t230 => ((Qz.f s0_0 bt224.2.1 bt224.2.2 20).bind fun bt233 => (if bt233.1 = 0 then ((Qz.f s0_0 bt233.2.1 bt233.2.2 (t230.length : Int)).bind fun bt236 => (if 0 ≤ bt236.1 then ((Qdf.f s0_0 bt236.2.1 bt236.2.2 (([(-1), 1, 3, shl .i64 1 bt236.1, 4611686018427387904] : List Int))).bind fun bt242 => (if bt236.1 < (t230.length : Int) then (some ((t230.set (bt236.1 : Int).toNat bt242.1), bt242.2.1, bt242.2.2)) else (none))) else (none))) else (if bt233.1 = 1 then (some (([] : List Int), bt233.2.1, bt233.2.2)) else (if bt233.1 = 2 then (Qbl.l0 k 0 s0_0 bt233.2.1 bt233.2.2 t230) else (some (t230, bt233.2.1, bt233.2.2)))))))
theorem Qbl.mono_l : ∀ k, (∀ y0 y1 y2 y3 y4, LeO (Qbl.l0 k y0 y1 y2 y3 y4) (Qbl.l0 (k + 1) y0 y1 y2 y3 y4))
 |0=>fun _ _ _ _ _ r h=>by simp [Qbl.l0] at h
 |k+1=>by
  have ih0:=Qbl.mono_l k
  ·
   intro y0 y1 y2 y3 y4;unfold Qbl.l0
   repeat' first
   |(with_reducible exact ih0 _ _ _ _ _)
   |(with_reducible exact Qr.mono _ _ _ _ _)
   |(with_reducible exact LeO.refl _)
   |(with_reducible exact LeO.none _)
   |(with_reducible refine LeO.ite ?_ ?_)
   |(with_reducible refine LeO.bind ?_ (fun _=> ?_))
   |exact ih0 _ _ _ _ _
   |exact Qr.mono _ _ _ _ _
   |exact LeO.none _
   |refine LeO.ite ?_ ?_
   |refine LeO.bind ?_ (fun _=> ?_)
theorem Qbl.mono : ∀ a0 a1 a2 a3 k, LeO (Qbl.f k a0 a1 a2 a3) (Qbl.f (k + 1) a0 a1 a2 a3) := by
 intro a0 a1 a2 a3 k;have ih0:=Qbl.mono_l k;unfold Qbl.f
 repeat' first
  |(with_reducible exact ih0 _ _ _ _ _)
  |(with_reducible exact Qr.mono _ _ _ _ _)
  |(with_reducible exact LeO.refl _)
  |(with_reducible exact LeO.none _)
  |(with_reducible refine LeO.ite ?_ ?_)
  |(with_reducible refine LeO.bind ?_ (fun _=> ?_))
  |exact ih0 _ _ _ _ _
  |exact Qr.mono _ _ _ _ _
  |exact LeO.none _
  |refine LeO.ite ?_ ?_
  |refine LeO.bind ?_ (fun _=> ?_)
def Qbl.T6 : Bool × List (List Nat × List Nat) := (true, [([], []), ([0], [0]), ([], []), ([], []), ([], []), ([4], [4]), ([5], [5]), ([3, 6], [3, 6]), ([1, 2, 0, 1, 2, 3, 4, 5, 6, 7], [1, 2]), ([8, 7, 7, 0, 1, 2, 3, 4, 5, 6, 7], [7, 8])])
def Qbl.B6 : List Nat := [0, 1, 0, 0, 0, 16, 48, 120, 255, 511]
theorem Qbl.tab6 : rtab .any (Qf2 Tryz.f181 6) = Qbl.T6 := by kernel_rfl
theorem Qbl.bits6 : Qd9 Qbl.T6.2 Qbl.B6 = true := by kernel_rfl
set_option maxHeartbeats 8000000 in
set_option maxRecDepth 100000 in
theorem Qbl.calls (k : Nat) (g : Nat) (s0_0 : List Int) (s0_1 : Int) (s0_2 : Int) (a1 : Int) (r1 : List Int) (r2 : Int) (r3 : Int) (w0 w : World) (hI : Qb w0 w g s0_0 s0_1 s0_2) (hB : Below w0.heap.size w0 w) (h : Qbl.f k s0_0 s0_1 s0_2 a1 = some (r1, r2, r3)) :
 Calls Tryz.prog 181 #[.pointer (some ⟨g,0,none⟩), .int .i64 a1] w fun e w'=> ∃ v0_:Value,e= .returned (.agg #[v0_])∧Kd.R (Kd.int .i64) 3 w' w.heap.size (fun _=>True) v0_ r1∧Qb w0 w' g s0_0 r2 r3∧Below w0.heap.size w0 w'∧Qg w w' g none:=by
 have hu26:=Tryz.underlying26;have HI0:=Aside0.mk hI;have HK:=Aside0.mk (Qg.refl w g none);have HL:=Aside0.mk hB.size;clear hI;have HW0:=Aside0.mk hB.size;have HB:=Aside0.mk hB;clear hB;have H:((Qr.f k s0_0 s0_1 s0_2 a1).bind fun bt224=>((Qe1.f bt224.1).bind fun t230=>((Qz.f s0_0 bt224.2.1 bt224.2.2 20).bind fun bt233=>(if bt233.1=0 then ((Qz.f s0_0 bt233.2.1 bt233.2.2 (t230.length:Int)).bind fun bt236=>(if 0≤bt236.1 then ((Qdf.f s0_0 bt236.2.1 bt236.2.2 (([(-1),1,3,shl .i64 1 bt236.1,4611686018427387904] :List Int))).bind fun bt242=>(if bt236.1<(t230.length:Int) then (some ((t230.set (bt236.1:Int).toNat bt242.1),bt242.2.1,bt242.2.2)) else (none))) else (none))) else (if bt233.1=1 then (some (([] :List Int),bt233.2.1,bt233.2.2)) else (if bt233.1=2 then (Qbl.l0 k 0 s0_0 bt233.2.1 bt233.2.2 t230) else (some (t230,bt233.2.1,bt233.2.2))))))))=some (r1,r2,r3):=h;clear h;obtain ⟨⟨t224,t227,t228⟩,A3,H⟩:=bs H;(try dsimp only at H)
 obtain ⟨t230,A4,H⟩:=bs H;(try dsimp only at H)
 obtain ⟨⟨t233,t234,t235⟩,A5,H⟩:=bs H;(try dsimp only at H)
 by_cases c6:t233=0
 ·
  rw [if_pos c6] at H;have c6b0:(t233==0)=true:=beq_iff_eq.mpr c6;have c6b1:(t233 !=0)=false:=bne_eq_false_iff_eq.mpr c6;clear c6;obtain ⟨⟨t236,t237,t238⟩,A7,H⟩:=bs H;(try dsimp only at H)
  by_cases c8:0≤t236
  ·
   rw [if_pos c8] at H;have c8b0:=eq_true c8;have c8b1:=decide_eq_true c8;clear c8;obtain ⟨ji9,hji9⟩: ∃ j_:Int,(shl .i64 1 t236)=j_:=⟨_,rfl⟩
   replace H:((Qdf.f s0_0 t237 t238 (([(-1),1,3,ji9,4611686018427387904] :List Int))).bind fun bt242=>(if t236<(t230.length:Int) then (some ((t230.set (t236:Int).toNat bt242.1),bt242.2.1,bt242.2.2)) else (none)))=some (r1,r2,r3):=by first|(rw [hji9] at H;exact H)|(simp only [hji9] at H ⊢;exact H)
   (try rw [hji9] at A3)
   (try rw [hji9] at A4)
   (try rw [hji9] at A5)
   (try rw [hji9] at A7)
   have hji9_:(IntKind.i64.wrap (1*2 ^ min t236.toNat 64))=ji9:=hji9;have hji9z:t236≤64→(IntKind.i64.wrap (1*2 ^ t236.toNat))=ji9:=Qd1 hji9;have hji9u:(IntKind.i64.wrap (2 ^ min t236.toNat 64))=ji9:=by have h_:=hji9_;rw [Int.one_mul] at h_;exact h_
   have hji9v:t236≤64→(IntKind.i64.wrap (2 ^ t236.toNat))=ji9:=fun hle_=>by have h_:=hji9z hle_;rw [Int.one_mul] at h_;exact h_
   have hji9y:(wrap64 (1*2 ^ min t236.toNat 64))=ji9:=(Qcu _).symm.trans hji9_;have hji9x:t236≤64→(wrap64 (1*2 ^ t236.toNat))=ji9:=fun h_=>(Qcu _).symm.trans (hji9z h_)
   obtain ⟨y239,hy239⟩: ∃ y_:List Int,y_=(([(-1),1,3,ji9,4611686018427387904] :List Int)):=⟨_,rfl⟩
   replace H:((Qdf.f s0_0 t237 t238 y239).bind fun bt242=>(if t236<(t230.length:Int) then (some ((t230.set (t236:Int).toNat bt242.1),bt242.2.1,bt242.2.2)) else (none)))=some (r1,r2,r3):=by first|(rw [hy239];with_reducible exact H)|(have H2_:=(Option.bind_some _ _).symm.trans H;rw [hy239];with_reducible exact H2_)|(have H2_:=(Option.bind_some _ _).symm.trans H;with_reducible exact H2_)|with_reducible exact H|(rw [hy239];exact H)|exact H
   have Ny239:=Aside0.mk hy239;clear hy239;obtain ⟨⟨t242,t243,t244⟩,A10,H⟩:=bs H;(try dsimp only at H)
   by_cases c11:t236<(t230.length:Int)
   ·
    rw [if_pos c11] at H;have c11b0:=decide_eq_true c11;clear c11;obtain ⟨y245,hy245⟩: ∃ y_:List Int,y_=(t230.set (t236:Int).toNat t242):=⟨_,rfl⟩
    replace H:(some (y245,t243,t244))=some (r1,r2,r3):=by first|(rw [hy245];with_reducible exact H)|(have H2_:=(Option.bind_some _ _).symm.trans H;rw [hy245];with_reducible exact H2_)|(have H2_:=(Option.bind_some _ _).symm.trans H;with_reducible exact H2_)|with_reducible exact H|(rw [hy245];exact H)|exact H
    have Ny245:=Aside0.mk hy245;clear hy245;simp only [Option.some.injEq,Prod.mk.injEq] at H;obtain ⟨rfl,rfl,rfl⟩:=H;go_enter Tryz.func181,Tryz.ntmps181
    try go_wp2_with (first|(refine bE (N:=4) (cs:= #[.slice none 0 0]) (t:=26) ?_;intro gb223 hg w13 hbox hb;replace HB:=Aside0.mk (Qa (Qb.vB HB) hb);have BK223:=Aside0.mk (hbox);have GW223:=Aside0.mk ((by rw [hg];exact (Qb3 (w:=w) (g:=g) (row:=none) (vK HK)):w.heap.size≤gb223));have GE223:=Aside0.mk ((Nat.le_trans HW0.out (by rw [hg];exact (Qb3 (w:=w) (g:=g) (row:=none) (vK HK)):w.heap.size≤gb223):w0.heap.size≤gb223));replace HK:=Aside0.mk (Qg.trans (vK HK) (Qg.of_below hb g none) (.inl rfl));have NB0_223:=Aside0.mk ((by rw [hg];exact Nat.ne_of_lt (Qb.lt (show Qb w0 _ g s0_0 s0_1 s0_2 from (Qb.vI HI0))):g≠gb223));have NB223_0:=Aside0.mk ((by rw [hg];exact Nat.ne_of_gt (Qb.lt (show Qb w0 _ g s0_0 s0_1 s0_2 from (Qb.vI HI0))):gb223≠g));replace HI0:=Aside0.mk (Qb.below (Qb.vI HI0) hb);clear hb hbox hg)|(refine gA (some 10) Tryz.func286 #[.pointer (some ⟨g,0,none⟩), .int .i64 a1] ?_;(with_reducible refine (Qr.calls k g s0_0 s0_1 s0_2 a1 t224 t227 t228 w0 _ (Qb.vI HI0) (Qb.vB HB) A3.out).mono ?_);rintro e w14 ⟨v225,rfl,ho0,hi,hb,hk⟩;refine ⟨_,rfl,?_⟩;replace BK223:=Aside0.mk (Qg.blk hk (g':=gb223) (o:= .cells #[.slice none 0 0] 26 (0,0)) (uK BK223) NB223_0.out (by simp));have HO226:=Aside0.mk (Kd.R_lower ho0 (Qb3 (w:=w) (g:=g) (row:=none) (vK HK)));replace HK:=Aside0.mk (Qg.trans (vK HK) hk (.inl rfl));replace HB:=Aside0.mk (hb);replace HI0:=Aside0.mk (hi);(try clear hb hk hi ho0))|(refine bE (N:=5) (cs:= #[.slice none 0 0]) (t:=26) ?_;intro gb229 hg w15 hbox hb;replace HO226:=Aside0.mk (Kd.R_below (uR HO226) hb);replace HB:=Aside0.mk (Qa (Qb.vB HB) hb);have BK229:=Aside0.mk (hbox);have GW229:=Aside0.mk ((by rw [hg];exact (Qb3 (w:=w) (g:=g) (row:=none) (vK HK)):w.heap.size≤gb229));have GE229:=Aside0.mk ((Nat.le_trans HW0.out (by rw [hg];exact (Qb3 (w:=w) (g:=g) (row:=none) (vK HK)):w.heap.size≤gb229):w0.heap.size≤gb229));replace HK:=Aside0.mk (Qg.trans (vK HK) (Qg.of_below hb g none) (.inl rfl));have NB223_229:=Aside0.mk ((by rw [hg];exact Nat.ne_of_lt (Qcc (uK BK223)):gb223≠gb229));have NB229_223:=Aside0.mk ((by rw [hg];exact Nat.ne_of_gt (Qcc (uK BK223)):gb229≠gb223));replace BK223:=Aside0.mk (Qc (uK BK223) hb);have NB0_229:=Aside0.mk ((by rw [hg];exact Nat.ne_of_lt (Qb.lt (show Qb w0 _ g s0_0 t227 t228 from (Qb.vI HI0))):g≠gb229));have NB229_0:=Aside0.mk ((by rw [hg];exact Nat.ne_of_gt (Qb.lt (show Qb w0 _ g s0_0 t227 t228 from (Qb.vI HI0))):gb229≠g));replace HI0:=Aside0.mk (Qb.below (Qb.vI HI0) hb);clear hb hbox hg;obtain ⟨Ao16,co16,eo16⟩:=Kd.R_slice HO226.out;subst eo16;have hnb17:=NB229_223.out;have hnc17:=NB223_229.out;have hnb18:=NB229_0.out;have hnc18:=NB0_229.out;have hcz19_0:=bC BK229;have hfz19_0:=Qf BK229.out 0)|(refine gA (some 13) Tryz.func273 #[.slice Ao16 t224.length co16] ?_;(with_reducible refine (Qe1.calls _ _ t224 t230 _ ?side1 ?side2 A4.out).mono ?_);(case side1=>refine (Kd.R_reads' (e:=3) (base:=w.heap.size) (ok:=fun k_=>True) (n:=t224.length) (c:=co16) ?_).2.2;exact (rF HO226 BK229 (.slice Ao16 t224.length co16)));(case side2=>exact (Kd.R_reads' HO226.out).2.1);rintro e w20 ⟨v231,rfl,ho0,hb⟩;refine ⟨_,rfl,?_⟩;have HO232:=Aside0.mk (Kd.R_lower (Kd.R_new' ho0 (Kd.R_lt (rF HO226 BK229 (.slice Ao16 t224.length co16)))) (Qb3 (w:=w) (g:=g) (row:=none) (vK HK)));replace HO226:=Aside0.mk (Kd.R_elder' (rF HO226 BK229 (.slice Ao16 t224.length co16)) (Kd.R_base ho0) hb);replace HI0:=Aside0.mk (Qb.below (show Qb w0 (w15.setCell ⟨gb229,0,none⟩ (.slice Ao16 t224.length co16)) g s0_0 t227 t228 from (Qb.vI HI0)) hb);replace BK223:=Aside0.mk (Qc (g:=gb223) (o:= .cells #[.slice none 0 0] 26 (0,0)) kF hb);replace BK229:=Aside0.mk (Qc (g:=gb229) (o:= .cells #[.slice Ao16 t224.length co16] 26 (0,0)) (by (with_reducible repeat (first|refine Qk ?_ _|refine Qj ?_|refine Qi ?_ _));refine Qcs (cs:= #[.slice none 0 0]) ?_ 0 _ rfl;(with_reducible repeat (first|refine Qk ?_ _|refine Qj ?_|refine Qi ?_ _));exact BK229.out) hb);replace HK:=Aside0.mk (Qg.trans (vK HK) (Qg.of_below hb g none) (.inl rfl));replace HB:=Aside0.mk (Qa (Qb.vB HB) hb);(try clear hb ho0);obtain ⟨Ao21,co21,eo21⟩:=Kd.R_slice HO232.out;subst eo21;have hcz22_0:=bC BK229;have hfz22_0:=Qf BK229.out 0)|(refine gA (some 16) Tryz.func162 #[.pointer (some ⟨g,0,none⟩), .int .i64 20] ?_;(with_reducible refine (Qz.calls g s0_0 t227 t228 20 t233 t234 t235 w0 _ (Qb.vI HI0) (Qb.vB HB) A5.out).mono ?_);rintro e w23 ⟨rfl,hi,hb,hk⟩;refine ⟨_,rfl,?_⟩;replace BK223:=Aside0.mk (Qg.blk hk (g':=gb223) (o:= .cells #[.slice none 0 0] 26 (0,0)) kF NB223_0.out (by simp));replace HO226:=Aside0.mk (Kd.R_mono (Kd.R_keep (Qb.apart (show Qb w0 _ g s0_0 t227 t228 from (Qb.vI HI0)) (rF HO226 BK229 (.slice Ao21 t230.length co21)) (by decide)) hk (fun _ h=>h.2)) (fun _ h=>h.1));replace HO232:=Aside0.mk (Kd.R_mono (Kd.R_keep (Qb.apart (show Qb w0 _ g s0_0 t227 t228 from (Qb.vI HI0)) (rF HO232 BK229 (.slice Ao21 t230.length co21)) (by decide)) hk (fun _ h=>h.2)) (fun _ h=>h.1));replace BK229:=Aside0.mk (Qg.blk hk (g':=gb229) (o:= .cells #[.slice Ao21 t230.length co21] 26 (0,0)) (by (with_reducible repeat (first|refine Qk ?_ _|refine Qj ?_|refine Qi ?_ _));refine Qcs (cs:= #[.slice Ao16 t224.length co16]) ?_ 0 _ rfl;(with_reducible repeat (first|refine Qk ?_ _|refine Qj ?_|refine Qi ?_ _));exact BK229.out) NB229_0.out (by simp));replace HK:=Aside0.mk (Qg.trans (vK HK) hk (.inl rfl));replace HB:=Aside0.mk (hb);replace HI0:=Aside0.mk (hi);(try clear hb hk hi);have hcz24_0:=bC BK229;have hfz24_0:=Qf BK229.out 0)|(refine gA (some 23) Tryz.func162 #[.pointer (some ⟨g,0,none⟩), .int .i64 (t230.length:Int)] ?_;(with_reducible refine (Qz.calls g s0_0 t234 t235 (t230.length:Int) t236 t237 t238 w0 _ (Qb.vI HI0) (Qb.vB HB) A7.out).mono ?_);rintro e w25 ⟨rfl,hi,hb,hk⟩;refine ⟨_,rfl,?_⟩;replace BK223:=Aside0.mk (Qg.blk hk (g':=gb223) (o:= .cells #[.slice none 0 0] 26 (0,0)) (uK BK223) NB223_0.out (by simp));replace HO226:=Aside0.mk (Kd.R_mono (Kd.R_keep (Qb.apart (show Qb w0 _ g s0_0 t234 t235 from (Qb.vI HI0)) (uR HO226) (by decide)) hk (fun _ h=>h.2)) (fun _ h=>h.1));replace BK229:=Aside0.mk (Qg.blk hk (g':=gb229) (o:= .cells #[.slice Ao21 t230.length co21] 26 (0,0)) (uK BK229) NB229_0.out (by simp));replace HO232:=Aside0.mk (Kd.R_mono (Kd.R_keep (Qb.apart (show Qb w0 _ g s0_0 t234 t235 from (Qb.vI HI0)) (uR HO232) (by decide)) hk (fun _ h=>h.2)) (fun _ h=>h.1));replace HK:=Aside0.mk (Qg.trans (vK HK) hk (.inl rfl));replace HB:=Aside0.mk (hb);replace HI0:=Aside0.mk (hi);(try clear hb hk hi)))
    replace HO226:=Aside0.mk (Kd.R_drew HO226.out);replace HO232:=Aside0.mk (Kd.R_drew HO232.out);replace BK223:=Aside0.mk (Qj BK223.out);replace BK229:=Aside0.mk (Qj BK229.out);replace HI0:=Aside0.mk (Qb.drew HI0.out);replace HK:=Aside0.mk (Qeo HK.out);replace HB:=Aside0.mk (Qy HB.out);refine sU (n:=10) (S:=fun w'=>w'.cell? ⟨gb229,0,none⟩=some (.slice Ao21 t230.length co21)) (ds:= [9]) ((Qci BK229.out 0).trans rfl) (fun hHeld=> ?_);refine Qeg Qbl.tab6 Qbl.bits6 (fun HT_ HW_=> ?_);generalize w25.drew=w26 at HO226 HO232 BK223 BK229 HI0 HK HB hHeld ⊢;refine pU 0 24 ?_;refine pU 2 26 ?_;refine pU 3 27 ?_;refine pU 4 28 ?_;refine pU 5 29 ?_;refine tU 1 25 hHeld ?_;refine oU 6 (some 30) fun K hK=> ?_
    refine Kd.R_lit_step (Kd.int .i64) _ 3 ?hg (N:=30) ?hd (xs:=([(-1),1,3,ji9,4611686018427387904] :List Int)) (inner:= [.int .i64 (-1), .int .i64 1, .int .i64 3, .int .i64 ji9, .int .i64 4611686018427387904]) (ok:=fun _=>True) (okp:=fun _=>True) ?hr ?hp (fun _ hk=>hk) trivial (Below.refl _ _) (Nat.le_refl _) (by simp) ?_;(case hd=>rfl);(case hg=>rfl);(case hr=>first|(go_simp;done)|(go_simp;rfl));(case hp=>exact (Reps.one (show Kd.M (Kd.int .i64) _ _ _ (-1) [.int .i64 (-1)] from rfl) (Reps.one (show Kd.M (Kd.int .i64) _ _ _ 1 [.int .i64 1] from rfl) (Reps.one (show Kd.M (Kd.int .i64) _ _ _ 3 [.int .i64 3] from rfl) (Reps.one (show Kd.M (Kd.int .i64) _ _ _ ji9 [.int .i64 ji9] from rfl) (Reps.one (show Kd.M (Kd.int .i64) _ _ _ 4611686018427387904 [.int .i64 4611686018427387904] from rfl) (Reps.none _ _)))))))
    intro v240 w27 ho28 hb hg_ hnew_;clear hg_ hnew_
    (first|rw [←Ny239.out] at ho28|(simp only [Int.reduceToNat] at ho28;rw [←Ny239.out] at ho28))
    have HO241:=Aside0.mk (Kd.R_lower (Kd.R_new' (Kd.R_new' ho28 (Kd.R_lt (uR HO226))) (Kd.R_lt (uR HO232))) (Qb3 (w:=w) (g:=g) (row:=none) (vK HK)));replace HO226:=Aside0.mk (Kd.R_elder' (uR HO226) (Kd.R_base ho28) hb);replace HO232:=Aside0.mk (Kd.R_elder' (uR HO232) (Kd.R_base ho28) hb);replace HI0:=Aside0.mk (Qb.below (Qb.u HI0) hb);replace BK223:=Aside0.mk (Qc (uK BK223) hb);replace BK229:=Aside0.mk (Qc (uK BK229) hb);replace HK:=Aside0.mk (Qg.trans (vK HK) (Qg.of_below hb g none) (.inl rfl));replace HB:=Aside0.mk (Qa (uB HB) hb);clear hb ho28;obtain ⟨Ao29,co29,eo29⟩:=Kd.R_slice HO241.out
    (first|subst eo29|(injection eo29 with f1_ f2_ f3_;have f4_:=f1_.symm;have f5_:=f3_.symm;clear f1_ f2_ f3_;subst f4_;subst f5_))
    refine hK.out _ _ ((Qci BK229.out 0).trans rfl) (fun hHeld=> ?_);clear hK K;refine nU 30 ?_;refine oU 7 (some 31) fun K hK=> ?_
    refine Qes Tryz.func190 (by kernel_rfl) rfl #[.pointer (some ⟨g,0,none⟩), .slice Ao29 y239.length co29] (by rfl) rfl rfl (by (try simp only [List.map_toArray,List.map_cons,List.map_nil]);first|done|rfl|(simp only [List.length_drop,List.length_take];rfl)) ?_
    with_reducible refine (Qdf.calls g s0_0 t237 t238 _ _ y239 t242 t243 t244 w0 _ ?side1 ?side2 ?side3 ?side4 ?side5 A10.out).mono ?_
    (case side1=>repeat (first|(with_reducible first|exact HI0.out|apply Qb.alloc|apply Qb.drewN|apply Qb.drew|apply Qb.set_1|apply Qb.set_2|refine Qb.far ?_ NB0_223.out _|refine Qb.far ?_ NB0_229.out _)|exact HI0.out))
    (case side2=>repeat (first|(with_reducible first|exact HB.out|apply Qo|apply Qq|apply Qy|refine Q4 ?_ (Qb.ge HI0.out)|refine Q4 ?_ GE223.out|refine Q4 ?_ GE229.out)|exact HB.out))
    (case side3=>repeat (first|exact (Kd.R_reads' HO241.out).2.2|(with_reducible refine Kd.C_alloc ?_ _)|(with_reducible refine Kd.C_drewN ?_ _)|(with_reducible refine Kd.C_drew ?_)))
    (case side4=>exact (Kd.R_reads' HO241.out).2.1)
    (case side5=>exact Qgm (Qb.own_ne HI0.out HO241.out (by decide)))
    rintro e w30 ⟨rfl,hi,hb,hk⟩;refine ⟨_,rfl,?_⟩;replace BK223:=Aside0.mk (Qg.blk hk (g':=gb223) (o:= .cells #[.slice none 0 0] 26 (0,0)) (uK BK223) NB223_0.out (by simp));replace HO226:=Aside0.mk (Kd.R_mono (Kd.R_keep (Qb.apart (show Qb w0 _ g s0_0 t237 t238 from Qb.u HI0) (uR HO226) (by decide)) hk (fun _ h=>h.2)) (fun _ h=>h.1));replace BK229:=Aside0.mk (Qg.blk hk (g':=gb229) (o:= .cells #[.slice Ao21 t230.length co21] 26 (0,0)) (uK BK229) NB229_0.out (by simp));replace HO232:=Aside0.mk (Kd.R_mono (Kd.R_keep (Qb.apart (show Qb w0 _ g s0_0 t237 t238 from Qb.u HI0) (uR HO232) (by decide)) hk (fun _ h=>h.2)) (fun _ h=>h.1));replace HO241:=Aside0.mk (Kd.R_mono (Kd.R_keep (Qb.apart (show Qb w0 _ g s0_0 t237 t238 from Qb.u HI0) (uR HO241) (by decide)) hk (fun _ h=>h.2)) (fun _ h=>h.1));replace HK:=Aside0.mk (Qg.trans (vK HK) hk (.inl rfl));replace HB:=Aside0.mk (hb);replace HI0:=Aside0.mk (hi)
    skip
    skip
    skip
    skip
    have p12:0≤(t236:Int):=of_decide_eq_true (by first|(with_reducible assumption)|assumption);have q12:(t236:Int)<((t230.length:Int):Int):=of_decide_eq_true (by first|(with_reducible assumption)|assumption);obtain ⟨go12,co12,eo12,gb12,gl12,cl12,HG12⟩:=Kd.R_form HO232.out (by omega)
    (first|cases eo12|(injection eo12 with ea_ en_ ec_;(first|subst ea_|(injection ea_ with ea_;subst ea_));subst ec_;clear en_))
    have GB12:=Aside0.mk gb12;have GG12:=Aside0.mk HG12;clear gb12 gl12 HG12;obtain ⟨hx12_0,hf12_0⟩:=Kd.R_celln 0 HO232.out (t236:Int) p12 q12;replace p12:=eq_true p12;replace q12:=eq_true q12;have HN0_go12:=Aside0.mk (show g≠go12 from by have h_:=Qb.own_ne HI0.out HO232.out (by decide);intro e_;exact h_ (by rw [e_];rfl));have HP31:=Kd.R_putn HO232.out (t236:Int) t242;rw [←Ny245.out] at HP31;have HQ31:=Aside0.mk HP31;clear HP31;refine hK.out _ _ ((Qci BK229.out 0).trans rfl) (fun hHeld=> ?_);clear hK K;refine nU 31 ?_;refine pU 8 32 ?_;refine lU 9 none fun K hK=> ?_
    refine sK ?_;refine hK.out _ _ ?_;clear hK K;refine dU ?_;have n0_:Aside0 (Kd.R (Kd.int .i64) 3 (w30.setCell ⟨go12,(t236:Int).toNat,none⟩ (.int .i64 t242)) w.heap.size (fun k_=>some k_≠(.slice (some ⟨go12,0,none⟩) t230.length co21:Value).ownBlock∧some k_≠(.slice Ao29 y239.length co29:Value).ownBlock) (.slice Ao16 t224.length co16) t224):=⟨by (with_reducible repeat (first|apply Kd.R_alloc|apply Kd.R_drewN|apply Kd.R_drew));exact Kd.R_mono (Kd.R_far (p:=⟨go12,(t236:Int).toNat,none⟩) (Kd.R_mono HO226.out (fun k_ hk=>(⟨hk,fun e_=>hk.1.2 (by rw [e_];rfl)⟩:_∧k_≠go12))) (fun _ hk=>hk.2) (.int .i64 t242)) (fun _ hk=>⟨hk.1.1.2,hk.1.2⟩)⟩
    have n1_:Aside0 (Kd.R (Kd.int .i64) 3 (w30.setCell ⟨go12,(t236:Int).toNat,none⟩ (.int .i64 t242)) w.heap.size (fun k_=>some k_≠(.slice Ao16 t224.length co16:Value).ownBlock∧some k_≠(.slice Ao29 y239.length co29:Value).ownBlock) (.slice (some ⟨go12,0,none⟩) t230.length co21) y245):=⟨Kd.R_mono (uR HQ31) (fun _ hk=>⟨hk.1.2,hk.2⟩)⟩
    have n2_:Aside0 (Kd.R (Kd.int .i64) 3 (w30.setCell ⟨go12,(t236:Int).toNat,none⟩ (.int .i64 t242)) w.heap.size (fun k_=>some k_≠(.slice Ao16 t224.length co16:Value).ownBlock∧some k_≠(.slice (some ⟨go12,0,none⟩) t230.length co21:Value).ownBlock) (.slice Ao29 y239.length co29) y239):=⟨by (with_reducible repeat (first|apply Kd.R_alloc|apply Kd.R_drewN|apply Kd.R_drew));exact Kd.R_mono (Kd.R_far (p:=⟨go12,(t236:Int).toNat,none⟩) (Kd.R_mono HO241.out (fun k_ hk=>(⟨hk,fun e_=>hk.2 (by rw [e_];rfl)⟩:_∧k_≠go12))) (fun _ hk=>hk.2) (.int .i64 t242)) (fun _ hk=>⟨hk.1.1.2,hk.1.2⟩)⟩
    have n3_:Aside0 ((w30.setCell ⟨go12,(t236:Int).toNat,none⟩ (.int .i64 t242)).heap[gb223]? =some (.cells #[.slice none 0 0] 26 (0,0))):=⟨by (with_reducible repeat (first|refine Qk ?_ _|refine Qj ?_|refine Qi ?_ _));refine Qd8 ?_ (by have h_:=Kd.R_ne HO232.out BK223.out (by decide);intro e_;exact h_ (by rw [e_];rfl)) _;(with_reducible repeat (first|refine Qk ?_ _|refine Qj ?_|refine Qi ?_ _));exact BK223.out⟩
    have n4_:Aside0 ((w30.setCell ⟨go12,(t236:Int).toNat,none⟩ (.int .i64 t242)).heap[gb229]? =some (.cells #[.slice (some ⟨go12,0,none⟩) t230.length co21] 26 (0,0))):=⟨by (with_reducible repeat (first|refine Qk ?_ _|refine Qj ?_|refine Qi ?_ _));refine Qd8 ?_ (by have h_:=Kd.R_ne HO232.out BK229.out (by decide);intro e_;exact h_ (by rw [e_];rfl)) _;(with_reducible repeat (first|refine Qk ?_ _|refine Qj ?_|refine Qi ?_ _));exact BK229.out⟩
    have n5_:Aside0 (Qb w0 (w30.setCell ⟨go12,(t236:Int).toNat,none⟩ (.int .i64 t242)) g s0_0 t243 t244):=⟨(Qb.vI HI0)⟩
    have n6_:Aside0 (Qg w (w30.setCell ⟨go12,(t236:Int).toNat,none⟩ (.int .i64 t242)) g none):=⟨(vK HK)⟩
    have n7_:Aside0 (Below w0.heap.size w0 (w30.setCell ⟨go12,(t236:Int).toNat,none⟩ (.int .i64 t242))):=⟨by repeat (first|(with_reducible first|exact HB.out|apply Qo|apply Qq|apply Qy|refine Q4 ?_ (Nat.le_trans HL.out GB12.out)|refine Q4 ?_ (Qb.ge HI0.out)|refine Q4 ?_ GE223.out|refine Q4 ?_ GE229.out)|exact HB.out)⟩
    (try clear HO226)
    (try clear HO232)
    (try clear HO241)
    (try clear BK223)
    (try clear BK229)
    (try clear HI0)
    (try clear HK)
    (try clear HB)
    generalize (w30.setCell ⟨go12,(t236:Int).toNat,none⟩ (.int .i64 t242))=w32 at n0_ n1_ n2_ n3_ n4_ n5_ n6_ n7_ ⊢;have HO226:=n0_;have HO232:=n1_;have HO241:=n2_;have BK223:=n3_;have BK229:=n4_;have HI0:=n5_;have HK:=n6_;have HB:=n7_;clear n0_ n1_ n2_ n3_ n4_ n5_ n6_ n7_;have hcz33_0:=bC BK229;have hfz33_0:=Qf BK229.out 0;have hnb34:=NB223_0.out;have hnc34:=NB0_223.out;have hcz35_0:=bC BK223;have hfz35_0:=Qf BK223.out 0
    try go_wp2
    refine bodyPost_ret (results_cell_row rfl _ _ gb223 26 #[.slice (some ⟨go12,0,none⟩) t230.length co21] (0,0) _ rfl (by (with_reducible repeat (first|refine Qk ?_ _|refine Qj ?_|refine Qi ?_ _));refine Qcs (cs:= #[.slice none 0 0]) ?_ 0 _ rfl;(with_reducible repeat (first|refine Qk ?_ _|refine Qj ?_|refine Qi ?_ _));exact BK223.out) Tryz.underlying26 rfl (by kernel_rfl)) rfl ?_;exact ⟨_,by first|rfl|(simp [Qd,Qe] <;>rfl)|(simp only [←hji9];first|rfl|(simp [Qd,Qe] <;>rfl))|(simp [*,Qd,Qe] <;>rfl),by (with_reducible repeat (first|apply Kd.R_alloc|apply Kd.R_drewN|apply Kd.R_drew));exact Kd.R_mono (Kd.R_far (p:=⟨gb223,0,none⟩) (Kd.R_types HO232.out BK223.out (by decide)) (fun _ hk=>hk.2) (.slice (some ⟨go12,0,none⟩) t230.length co21)) (fun _ hk=>trivial),(Qb.vI HI0),(Qb.vB HB),(vK HK)⟩
   ·
    rw [if_neg c11] at H;exact absurd H (by simp)
  ·
   rw [if_neg c8] at H;exact absurd H (by simp)
 ·
  rw [if_neg c6] at H;have c6b0:(t233==0)=false:=beq_eq_false_iff_ne.mpr c6;have c6b1:(t233 !=0)=true:=bne_iff_ne.mpr c6
  by_cases c36:t233=1
  ·
   rw [if_pos c36] at H;have c36b0:(t233==1)=true:=beq_iff_eq.mpr c36;have c36b1:(t233 !=1)=false:=bne_eq_false_iff_eq.mpr c36;clear c36;simp only [Option.some.injEq,Prod.mk.injEq] at H;obtain ⟨rfl,rfl,rfl⟩:=H;go_enter Tryz.func181,Tryz.ntmps181;go_wp2_with (first|(refine bE (N:=4) (cs:= #[.slice none 0 0]) (t:=26) ?_;intro gb223 hg w37 hbox hb;replace HB:=Aside0.mk (Qa (Qb.vB HB) hb);have BK223:=Aside0.mk (hbox);have GW223:=Aside0.mk ((by rw [hg];exact (Qb3 (w:=w) (g:=g) (row:=none) (vK HK)):w.heap.size≤gb223));have GE223:=Aside0.mk ((Nat.le_trans HW0.out (by rw [hg];exact (Qb3 (w:=w) (g:=g) (row:=none) (vK HK)):w.heap.size≤gb223):w0.heap.size≤gb223));replace HK:=Aside0.mk (Qg.trans (vK HK) (Qg.of_below hb g none) (.inl rfl));have NB0_223:=Aside0.mk ((by rw [hg];exact Nat.ne_of_lt (Qb.lt (show Qb w0 _ g s0_0 s0_1 s0_2 from (Qb.vI HI0))):g≠gb223));have NB223_0:=Aside0.mk ((by rw [hg];exact Nat.ne_of_gt (Qb.lt (show Qb w0 _ g s0_0 s0_1 s0_2 from (Qb.vI HI0))):gb223≠g));replace HI0:=Aside0.mk (Qb.below (Qb.vI HI0) hb);clear hb hbox hg)|(refine gA (some 10) Tryz.func286 #[.pointer (some ⟨g,0,none⟩), .int .i64 a1] ?_;(with_reducible refine (Qr.calls k g s0_0 s0_1 s0_2 a1 t224 t227 t228 w0 _ (Qb.vI HI0) (Qb.vB HB) A3.out).mono ?_);rintro e w38 ⟨v225,rfl,ho0,hi,hb,hk⟩;refine ⟨_,rfl,?_⟩;replace BK223:=Aside0.mk (Qg.blk hk (g':=gb223) (o:= .cells #[.slice none 0 0] 26 (0,0)) (uK BK223) NB223_0.out (by simp));have HO226:=Aside0.mk (Kd.R_lower ho0 (Qb3 (w:=w) (g:=g) (row:=none) (vK HK)));replace HK:=Aside0.mk (Qg.trans (vK HK) hk (.inl rfl));replace HB:=Aside0.mk (hb);replace HI0:=Aside0.mk (hi);(try clear hb hk hi ho0))|(refine bE (N:=5) (cs:= #[.slice none 0 0]) (t:=26) ?_;intro gb229 hg w39 hbox hb;replace HO226:=Aside0.mk (Kd.R_below (uR HO226) hb);replace HB:=Aside0.mk (Qa (Qb.vB HB) hb);have BK229:=Aside0.mk (hbox);have GW229:=Aside0.mk ((by rw [hg];exact (Qb3 (w:=w) (g:=g) (row:=none) (vK HK)):w.heap.size≤gb229));have GE229:=Aside0.mk ((Nat.le_trans HW0.out (by rw [hg];exact (Qb3 (w:=w) (g:=g) (row:=none) (vK HK)):w.heap.size≤gb229):w0.heap.size≤gb229));replace HK:=Aside0.mk (Qg.trans (vK HK) (Qg.of_below hb g none) (.inl rfl));have NB223_229:=Aside0.mk ((by rw [hg];exact Nat.ne_of_lt (Qcc (uK BK223)):gb223≠gb229));have NB229_223:=Aside0.mk ((by rw [hg];exact Nat.ne_of_gt (Qcc (uK BK223)):gb229≠gb223));replace BK223:=Aside0.mk (Qc (uK BK223) hb);have NB0_229:=Aside0.mk ((by rw [hg];exact Nat.ne_of_lt (Qb.lt (show Qb w0 _ g s0_0 t227 t228 from (Qb.vI HI0))):g≠gb229));have NB229_0:=Aside0.mk ((by rw [hg];exact Nat.ne_of_gt (Qb.lt (show Qb w0 _ g s0_0 t227 t228 from (Qb.vI HI0))):gb229≠g));replace HI0:=Aside0.mk (Qb.below (Qb.vI HI0) hb);clear hb hbox hg;obtain ⟨Ao40,co40,eo40⟩:=Kd.R_slice HO226.out;subst eo40;have hnb41:=NB229_223.out;have hnc41:=NB223_229.out;have hnb42:=NB229_0.out;have hnc42:=NB0_229.out;have hcz43_0:=bC BK229;have hfz43_0:=Qf BK229.out 0)|(refine gA (some 13) Tryz.func273 #[.slice Ao40 t224.length co40] ?_;(with_reducible refine (Qe1.calls _ _ t224 t230 _ ?side1 ?side2 A4.out).mono ?_);(case side1=>refine (Kd.R_reads' (e:=3) (base:=w.heap.size) (ok:=fun k_=>True) (n:=t224.length) (c:=co40) ?_).2.2;exact (rF HO226 BK229 (.slice Ao40 t224.length co40)));(case side2=>exact (Kd.R_reads' HO226.out).2.1);rintro e w44 ⟨v231,rfl,ho0,hb⟩;refine ⟨_,rfl,?_⟩;have HO232:=Aside0.mk (Kd.R_lower (Kd.R_new' ho0 (Kd.R_lt (rF HO226 BK229 (.slice Ao40 t224.length co40)))) (Qb3 (w:=w) (g:=g) (row:=none) (vK HK)));replace HO226:=Aside0.mk (Kd.R_elder' (rF HO226 BK229 (.slice Ao40 t224.length co40)) (Kd.R_base ho0) hb);replace HI0:=Aside0.mk (Qb.below (show Qb w0 (w39.setCell ⟨gb229,0,none⟩ (.slice Ao40 t224.length co40)) g s0_0 t227 t228 from (Qb.vI HI0)) hb);replace BK223:=Aside0.mk (Qc (g:=gb223) (o:= .cells #[.slice none 0 0] 26 (0,0)) kF hb);replace BK229:=Aside0.mk (Qc (g:=gb229) (o:= .cells #[.slice Ao40 t224.length co40] 26 (0,0)) (by (with_reducible repeat (first|refine Qk ?_ _|refine Qj ?_|refine Qi ?_ _));refine Qcs (cs:= #[.slice none 0 0]) ?_ 0 _ rfl;(with_reducible repeat (first|refine Qk ?_ _|refine Qj ?_|refine Qi ?_ _));exact BK229.out) hb);replace HK:=Aside0.mk (Qg.trans (vK HK) (Qg.of_below hb g none) (.inl rfl));replace HB:=Aside0.mk (Qa (Qb.vB HB) hb);(try clear hb ho0);obtain ⟨Ao45,co45,eo45⟩:=Kd.R_slice HO232.out;subst eo45;have hcz46_0:=bC BK229;have hfz46_0:=Qf BK229.out 0)|(refine gA (some 16) Tryz.func162 #[.pointer (some ⟨g,0,none⟩), .int .i64 20] ?_;(with_reducible refine (Qz.calls g s0_0 t227 t228 20 t233 t234 t235 w0 _ (Qb.vI HI0) (Qb.vB HB) A5.out).mono ?_);rintro e w47 ⟨rfl,hi,hb,hk⟩;refine ⟨_,rfl,?_⟩;replace BK223:=Aside0.mk (Qg.blk hk (g':=gb223) (o:= .cells #[.slice none 0 0] 26 (0,0)) kF NB223_0.out (by simp));replace HO226:=Aside0.mk (Kd.R_mono (Kd.R_keep (Qb.apart (show Qb w0 _ g s0_0 t227 t228 from (Qb.vI HI0)) (rF HO226 BK229 (.slice Ao45 t230.length co45)) (by decide)) hk (fun _ h=>h.2)) (fun _ h=>h.1));replace HO232:=Aside0.mk (Kd.R_mono (Kd.R_keep (Qb.apart (show Qb w0 _ g s0_0 t227 t228 from (Qb.vI HI0)) (rF HO232 BK229 (.slice Ao45 t230.length co45)) (by decide)) hk (fun _ h=>h.2)) (fun _ h=>h.1));replace BK229:=Aside0.mk (Qg.blk hk (g':=gb229) (o:= .cells #[.slice Ao45 t230.length co45] 26 (0,0)) (by (with_reducible repeat (first|refine Qk ?_ _|refine Qj ?_|refine Qi ?_ _));refine Qcs (cs:= #[.slice Ao40 t224.length co40]) ?_ 0 _ rfl;(with_reducible repeat (first|refine Qk ?_ _|refine Qj ?_|refine Qi ?_ _));exact BK229.out) NB229_0.out (by simp));replace HK:=Aside0.mk (Qg.trans (vK HK) hk (.inl rfl));replace HB:=Aside0.mk (hb);replace HI0:=Aside0.mk (hi);(try clear hb hk hi);have hcz48_0:=bC BK229;have hfz48_0:=Qf BK229.out 0;have hnb49:=NB223_0.out;have hnc49:=NB0_223.out;have hcz50_0:=bC BK223;have hfz50_0:=Qf BK223.out 0))
   refine bodyPost_ret (results_cell_row rfl _ _ gb223 26 #[.slice none 0 0] (0,0) _ rfl (by (with_reducible repeat (first|refine Qk ?_ _|refine Qj ?_|refine Qi ?_ _));refine Qcs (cs:= #[.slice none 0 0]) ?_ 0 _ rfl;(with_reducible repeat (first|refine Qk ?_ _|refine Qj ?_|refine Qi ?_ _));refine Qd8 ?_ NB223_229.out _;(with_reducible repeat (first|refine Qk ?_ _|refine Qj ?_|refine Qi ?_ _));exact BK223.out) Tryz.underlying26 rfl (by kernel_rfl)) rfl ?_;exact ⟨_,by first|rfl|(simp [Qd,Qe] <;>rfl)|(simp [*,Qd,Qe] <;>rfl),by first|exact Kd.R_nil _ _ _ _ _|exact Kd.N_nil _ _ _ _ _|exact Kd.V_nil _ _ _ _ _|exact Kd.Q_nil _ _ _ _ _|exact Kd.S_nil _ _ _ _ _,(Qb.vI HI0),(Qb.vB HB),(vK HK)⟩
  ·
   rw [if_neg c36] at H;have c36b0:(t233==1)=false:=beq_eq_false_iff_ne.mpr c36;have c36b1:(t233 !=1)=true:=bne_iff_ne.mpr c36
   by_cases c51:t233=2
   ·
    rw [if_pos c51] at H;have c51b0:(t233==2)=true:=beq_iff_eq.mpr c51;have c51b1:(t233 !=2)=false:=bne_eq_false_iff_eq.mpr c51;clear c51;have H':=Aside0.mk H;clear H;go_enter Tryz.func181,Tryz.ntmps181;go_wp2_with (first|(refine bE (N:=4) (cs:= #[.slice none 0 0]) (t:=26) ?_;intro gb223 hg w52 hbox hb;replace HB:=Aside0.mk (Qa (Qb.vB HB) hb);have BK223:=Aside0.mk (hbox);have GW223:=Aside0.mk ((by rw [hg];exact (Qb3 (w:=w) (g:=g) (row:=none) (vK HK)):w.heap.size≤gb223));have GE223:=Aside0.mk ((Nat.le_trans HW0.out (by rw [hg];exact (Qb3 (w:=w) (g:=g) (row:=none) (vK HK)):w.heap.size≤gb223):w0.heap.size≤gb223));replace HK:=Aside0.mk (Qg.trans (vK HK) (Qg.of_below hb g none) (.inl rfl));have NB0_223:=Aside0.mk ((by rw [hg];exact Nat.ne_of_lt (Qb.lt (show Qb w0 _ g s0_0 s0_1 s0_2 from (Qb.vI HI0))):g≠gb223));have NB223_0:=Aside0.mk ((by rw [hg];exact Nat.ne_of_gt (Qb.lt (show Qb w0 _ g s0_0 s0_1 s0_2 from (Qb.vI HI0))):gb223≠g));replace HI0:=Aside0.mk (Qb.below (Qb.vI HI0) hb);clear hb hbox hg)|(refine gA (some 10) Tryz.func286 #[.pointer (some ⟨g,0,none⟩), .int .i64 a1] ?_;(with_reducible refine (Qr.calls k g s0_0 s0_1 s0_2 a1 t224 t227 t228 w0 _ (Qb.vI HI0) (Qb.vB HB) A3.out).mono ?_);rintro e w53 ⟨v225,rfl,ho0,hi,hb,hk⟩;refine ⟨_,rfl,?_⟩;replace BK223:=Aside0.mk (Qg.blk hk (g':=gb223) (o:= .cells #[.slice none 0 0] 26 (0,0)) (uK BK223) NB223_0.out (by simp));have HO226:=Aside0.mk (Kd.R_lower ho0 (Qb3 (w:=w) (g:=g) (row:=none) (vK HK)));replace HK:=Aside0.mk (Qg.trans (vK HK) hk (.inl rfl));replace HB:=Aside0.mk (hb);replace HI0:=Aside0.mk (hi);(try clear hb hk hi ho0))|(refine bE (N:=5) (cs:= #[.slice none 0 0]) (t:=26) ?_;intro gb229 hg w54 hbox hb;replace HO226:=Aside0.mk (Kd.R_below (uR HO226) hb);replace HB:=Aside0.mk (Qa (Qb.vB HB) hb);have BK229:=Aside0.mk (hbox);have GW229:=Aside0.mk ((by rw [hg];exact (Qb3 (w:=w) (g:=g) (row:=none) (vK HK)):w.heap.size≤gb229));have GE229:=Aside0.mk ((Nat.le_trans HW0.out (by rw [hg];exact (Qb3 (w:=w) (g:=g) (row:=none) (vK HK)):w.heap.size≤gb229):w0.heap.size≤gb229));replace HK:=Aside0.mk (Qg.trans (vK HK) (Qg.of_below hb g none) (.inl rfl));have NB223_229:=Aside0.mk ((by rw [hg];exact Nat.ne_of_lt (Qcc (uK BK223)):gb223≠gb229));have NB229_223:=Aside0.mk ((by rw [hg];exact Nat.ne_of_gt (Qcc (uK BK223)):gb229≠gb223));replace BK223:=Aside0.mk (Qc (uK BK223) hb);have NB0_229:=Aside0.mk ((by rw [hg];exact Nat.ne_of_lt (Qb.lt (show Qb w0 _ g s0_0 t227 t228 from (Qb.vI HI0))):g≠gb229));have NB229_0:=Aside0.mk ((by rw [hg];exact Nat.ne_of_gt (Qb.lt (show Qb w0 _ g s0_0 t227 t228 from (Qb.vI HI0))):gb229≠g));replace HI0:=Aside0.mk (Qb.below (Qb.vI HI0) hb);clear hb hbox hg;obtain ⟨Ao55,co55,eo55⟩:=Kd.R_slice HO226.out;subst eo55;have hnb56:=NB229_223.out;have hnc56:=NB223_229.out;have hnb57:=NB229_0.out;have hnc57:=NB0_229.out;have hcz58_0:=bC BK229;have hfz58_0:=Qf BK229.out 0)|(refine gA (some 13) Tryz.func273 #[.slice Ao55 t224.length co55] ?_;(with_reducible refine (Qe1.calls _ _ t224 t230 _ ?side1 ?side2 A4.out).mono ?_);(case side1=>refine (Kd.R_reads' (e:=3) (base:=w.heap.size) (ok:=fun k_=>True) (n:=t224.length) (c:=co55) ?_).2.2;exact (rF HO226 BK229 (.slice Ao55 t224.length co55)));(case side2=>exact (Kd.R_reads' HO226.out).2.1);rintro e w59 ⟨v231,rfl,ho0,hb⟩;refine ⟨_,rfl,?_⟩;have HO232:=Aside0.mk (Kd.R_lower (Kd.R_new' ho0 (Kd.R_lt (rF HO226 BK229 (.slice Ao55 t224.length co55)))) (Qb3 (w:=w) (g:=g) (row:=none) (vK HK)));replace HO226:=Aside0.mk (Kd.R_elder' (rF HO226 BK229 (.slice Ao55 t224.length co55)) (Kd.R_base ho0) hb);replace HI0:=Aside0.mk (Qb.below (show Qb w0 (w54.setCell ⟨gb229,0,none⟩ (.slice Ao55 t224.length co55)) g s0_0 t227 t228 from (Qb.vI HI0)) hb);replace BK223:=Aside0.mk (Qc (g:=gb223) (o:= .cells #[.slice none 0 0] 26 (0,0)) kF hb);replace BK229:=Aside0.mk (Qc (g:=gb229) (o:= .cells #[.slice Ao55 t224.length co55] 26 (0,0)) (by (with_reducible repeat (first|refine Qk ?_ _|refine Qj ?_|refine Qi ?_ _));refine Qcs (cs:= #[.slice none 0 0]) ?_ 0 _ rfl;(with_reducible repeat (first|refine Qk ?_ _|refine Qj ?_|refine Qi ?_ _));exact BK229.out) hb);replace HK:=Aside0.mk (Qg.trans (vK HK) (Qg.of_below hb g none) (.inl rfl));replace HB:=Aside0.mk (Qa (Qb.vB HB) hb);(try clear hb ho0);obtain ⟨Ao60,co60,eo60⟩:=Kd.R_slice HO232.out;subst eo60;have hcz61_0:=bC BK229;have hfz61_0:=Qf BK229.out 0)|(refine gA (some 16) Tryz.func162 #[.pointer (some ⟨g,0,none⟩), .int .i64 20] ?_;(with_reducible refine (Qz.calls g s0_0 t227 t228 20 t233 t234 t235 w0 _ (Qb.vI HI0) (Qb.vB HB) A5.out).mono ?_);rintro e w62 ⟨rfl,hi,hb,hk⟩;refine ⟨_,rfl,?_⟩;replace BK223:=Aside0.mk (Qg.blk hk (g':=gb223) (o:= .cells #[.slice none 0 0] 26 (0,0)) kF NB223_0.out (by simp));replace HO226:=Aside0.mk (Kd.R_mono (Kd.R_keep (Qb.apart (show Qb w0 _ g s0_0 t227 t228 from (Qb.vI HI0)) (rF HO226 BK229 (.slice Ao60 t230.length co60)) (by decide)) hk (fun _ h=>h.2)) (fun _ h=>h.1));replace HO232:=Aside0.mk (Kd.R_mono (Kd.R_keep (Qb.apart (show Qb w0 _ g s0_0 t227 t228 from (Qb.vI HI0)) (rF HO232 BK229 (.slice Ao60 t230.length co60)) (by decide)) hk (fun _ h=>h.2)) (fun _ h=>h.1));replace BK229:=Aside0.mk (Qg.blk hk (g':=gb229) (o:= .cells #[.slice Ao60 t230.length co60] 26 (0,0)) (by (with_reducible repeat (first|refine Qk ?_ _|refine Qj ?_|refine Qi ?_ _));refine Qcs (cs:= #[.slice Ao55 t224.length co55]) ?_ 0 _ rfl;(with_reducible repeat (first|refine Qk ?_ _|refine Qj ?_|refine Qi ?_ _));exact BK229.out) NB229_0.out (by simp));replace HK:=Aside0.mk (Qg.trans (vK HK) hk (.inl rfl));replace HB:=Aside0.mk (hb);replace HI0:=Aside0.mk (hi);(try clear hb hk hi)))
    go_loopg [7] k (fun kq v7 w'=> ∃ (x7_1:Int) (x230000_1:List Int) (u230000:Value),v7= .int .i64 x7_1∧Aside0 (Qbl.l0 kq x7_1 s0_0 t234 t235 x230000_1=some (r1,r2,r3))∧Aside0 (kq≤k)∧Aside0 (Kd.R (Kd.int .i64) 3 w' w.heap.size (fun _=>True) u230000 x230000_1)∧Aside0 (w'.heap[gb223]? =some (.cells #[(.slice none 0 0)] 26 (0,0)))∧Aside0 (w'.heap[gb229]? =some (.cells #[u230000] 26 (0,0)))∧Aside0 (Qb w0 w' g s0_0 t234 t235)∧Aside0 (Qg w w' g none)∧Aside0 (Below w0.heap.size w0 w'))
    case atStart=>exact ⟨(0),(t230),(.slice Ao60 t230.length co60),(by first|rfl|(simp;done)|(simp [*];done)),H',⟨Nat.le_refl _⟩,⟨Kd.R_mono (uR HO232) (fun _ hk=>trivial)⟩,⟨uK BK223⟩,⟨uK BK229⟩,⟨Qb.u HI0⟩,⟨(vK HK)⟩,⟨uB HB⟩⟩
    case round=>
     clear H'
     try clear c1
     try clear p1
     try clear q1
     try clear hx1
     try clear c2
     try clear p2
     try clear c3
     try clear c4
     try clear c5
     try clear c6
     try clear c6b0
     try clear c6b1
     try clear p6
     try clear c8
     try clear c8b0
     try clear c8b1
     try clear c11
     try clear c11b0
     try clear p12
     try clear q12
     try clear hx12
     try clear hf12
     try clear c16
     try clear c17
     try clear c18
     try clear c19
     try clear c27
     try clear c28
     try clear c34
     try clear c36
     try clear c36b0
     try clear c36b1
     try clear c41
     try clear c42
     try clear c49
     try clear c51
     try clear c51b0
     try clear c51b1
     try clear c56
     try clear c57
     try clear hcz19_0
     try clear hcz22_0
     try clear hcz24_0
     try clear hcz33_0
     try clear hcz35_0
     try clear hcz43_0
     try clear hcz46_0
     try clear hcz48_0
     try clear hcz50_0
     try clear hcz58_0
     try clear hcz61_0
     try clear hfz19_0
     try clear hfz22_0
     try clear hfz24_0
     try clear hfz33_0
     try clear hfz35_0
     try clear hfz43_0
     try clear hfz46_0
     try clear hfz48_0
     try clear hfz50_0
     try clear hfz58_0
     try clear hfz61_0
     try clear hx12_0
     try clear p12
     try clear q12
     obtain ⟨x7_1,x230000_1,u230000,rfl,HA,HK1,HO_230000,BK223,BK229,HI0,HK,HB⟩:=hrel;cases gk with
     |zero=>exact absurd HA.out (by simp [Qbl.l0])
     |succ k1=>
      have H:=HA.out;clear HA;simp only [Qbl.l0] at H
      by_cases c63:x7_1<11
      ·
       rw [if_pos c63] at H;have c63b0:=decide_eq_true c63;clear c63
       by_cases c64:x230000_1.length<17592186044416
       ·
        rw [if_pos c64] at H;have LMc64:=Aside0.mk c64;clear c64;obtain ⟨y246,hy246⟩: ∃ y_:List Int,y_=(x230000_1++ [0]):=⟨_,rfl⟩
        replace H:(Qbl.l0 k1 (wrap64 (x7_1+1)) s0_0 t234 t235 y246)=some (r1,r2,r3):=by first|(rw [hy246];with_reducible exact H)|(have H2_:=(Option.bind_some _ _).symm.trans H;rw [hy246];with_reducible exact H2_)|(have H2_:=(Option.bind_some _ _).symm.trans H;with_reducible exact H2_)|with_reducible exact H|(rw [hy246];exact H)|exact H
        have Ny246:=Aside0.mk hy246;clear hy246;have H':=Aside0.mk H;clear H;have hnb65:=NB229_223.out;have hnc65:=NB223_229.out;have hnb66:=NB229_0.out;have hnc66:=NB0_229.out;have hcz67_0:=bC BK229;have hfz67_0:=Qf BK229.out 0;go_wp2_with (first|((with_reducible refine Qc4 (b:= .append) (xs:= #[.tmp 43, .tmp 44]) rfl ?_);at_builtin;refine Kd.R_append (Kd.int .i64) w.heap.size rfl (.tmp 43) (.tmp 44) 24 3 (.int .i64 0) 8 rfl Tryz.underlying24 Qfm rfl (by decide) (by omega) u230000 x230000_1 0 [.int .i64 0] (fun _=>True) (fun _=>False) rfl rfl ?aP (fun _ hk=>hk.elim) ?aF ?aO (Below.refl _ _) ?aS ?aL ?_;(case aP=>exact rfl);(case aF=>exact (fun _ _=>trivial));(case aO=>exact (uR HO_230000));(case aS=>exact (Qb3 (w:=w) (g:=g) (row:=none) (vK HK)));(case aL=>have:=LMc64.out;omega);intro v247 w68 ho hb hg hat;rw [←Ny246.out] at ho;replace BK223:=Aside0.mk (Qds (uK BK223) hg (Kd.R_ne HO_230000.out BK223.out (by decide)));replace BK229:=Aside0.mk (Qds (uK BK229) hg (Kd.R_ne HO_230000.out BK229.out (by decide)));replace HI0:=Aside0.mk (Qb.grown (Qb.u HI0) hg (Qb.own_ne HI0.out HO_230000.out (by decide)));replace HB:=Aside0.mk (Qjf (uB HB) HL.out hb);replace HK:=Aside0.mk (Qg.trans (vK HK) (Qg.of_grown hg g) (Kd.R_base2 HO_230000.out));have HO248:=Aside0.mk (ho);clear HO_230000;clear ho hb hg hat;obtain ⟨Ao69,co69,eo69⟩:=Kd.R_slice HO248.out;subst eo69;have hcz70_0:=bC BK229;have hfz70_0:=Qf BK229.out 0));go_roundg k1
        case measure=>have:=HK1.out;omega
        case rel=>exact ⟨(wrap64 (x7_1+1)),(y246),(.slice Ao69 y246.length co69),(by first|rfl|(simp;done)|(simp [*];done)),H',⟨by have:=HK1.out;omega⟩,⟨by (with_reducible repeat (first|apply Kd.R_alloc|apply Kd.R_drewN|apply Kd.R_drew));exact Kd.R_mono (Kd.R_far (p:=⟨gb229,0,none⟩) (Kd.R_types HO248.out BK229.out (by decide)) (fun _ hk=>hk.2) (.slice Ao69 y246.length co69)) (fun _ hk=>trivial)⟩,⟨kF⟩,⟨by (with_reducible repeat (first|refine Qk ?_ _|refine Qj ?_|refine Qi ?_ _));refine Qcs (cs:= #[u230000]) ?_ 0 _ rfl;(with_reducible repeat (first|refine Qk ?_ _|refine Qj ?_|refine Qi ?_ _));exact BK229.out⟩,⟨(Qb.vI HI0)⟩,⟨(vK HK)⟩,⟨(Qb.vB HB)⟩⟩
       ·
        rw [if_neg c64] at H;exact absurd H (by simp)
      ·
       rw [if_neg c63] at H;have c63b0:=decide_eq_false c63;clear c63;simp only [Option.some.injEq,Prod.mk.injEq] at H;obtain ⟨rfl,rfl,rfl⟩:=H;have hnb71:=NB229_223.out;have hnc71:=NB223_229.out;have hnb72:=NB229_0.out;have hnc72:=NB0_229.out;have hcz73_0:=bC BK229;have hfz73_0:=Qf BK229.out 0;obtain ⟨Ao74,co74,eo74⟩:=Kd.R_slice HO_230000.out;subst eo74;have hnb75:=NB223_0.out;have hnc75:=NB0_223.out;have hcz76_0:=bC BK223;have hfz76_0:=Qf BK223.out 0;go_wp2;refine bodyPost_ret (results_cell_row rfl _ _ gb223 26 #[.slice Ao74 x230000_1.length co74] (0,0) _ rfl (by (with_reducible repeat (first|refine Qk ?_ _|refine Qj ?_|refine Qi ?_ _));refine Qcs (cs:= #[.slice none 0 0]) ?_ 0 _ rfl;(with_reducible repeat (first|refine Qk ?_ _|refine Qj ?_|refine Qi ?_ _));exact BK223.out) Tryz.underlying26 rfl (by kernel_rfl)) rfl ?_;exact ⟨_,by first|rfl|(simp [Qd,Qe] <;>rfl)|(simp [*,Qd,Qe] <;>rfl),by (with_reducible repeat (first|apply Kd.R_alloc|apply Kd.R_drewN|apply Kd.R_drew));exact Kd.R_mono (Kd.R_far (p:=⟨gb223,0,none⟩) (Kd.R_types HO_230000.out BK223.out (by decide)) (fun _ hk=>hk.2) (.slice Ao74 x230000_1.length co74)) (fun _ hk=>trivial),(Qb.vI HI0),(Qb.vB HB),(vK HK)⟩
   ·
    rw [if_neg c51] at H;have c51b0:(t233==2)=false:=beq_eq_false_iff_ne.mpr c51;have c51b1:(t233 !=2)=true:=bne_iff_ne.mpr c51;simp only [Option.some.injEq,Prod.mk.injEq] at H;obtain ⟨rfl,rfl,rfl⟩:=H;go_enter Tryz.func181,Tryz.ntmps181;go_wp2_with (first|(refine bE (N:=4) (cs:= #[.slice none 0 0]) (t:=26) ?_;intro gb223 hg w77 hbox hb;replace HB:=Aside0.mk (Qa (Qb.vB HB) hb);have BK223:=Aside0.mk (hbox);have GW223:=Aside0.mk ((by rw [hg];exact (Qb3 (w:=w) (g:=g) (row:=none) (vK HK)):w.heap.size≤gb223));have GE223:=Aside0.mk ((Nat.le_trans HW0.out (by rw [hg];exact (Qb3 (w:=w) (g:=g) (row:=none) (vK HK)):w.heap.size≤gb223):w0.heap.size≤gb223));replace HK:=Aside0.mk (Qg.trans (vK HK) (Qg.of_below hb g none) (.inl rfl));have NB0_223:=Aside0.mk ((by rw [hg];exact Nat.ne_of_lt (Qb.lt (show Qb w0 _ g s0_0 s0_1 s0_2 from (Qb.vI HI0))):g≠gb223));have NB223_0:=Aside0.mk ((by rw [hg];exact Nat.ne_of_gt (Qb.lt (show Qb w0 _ g s0_0 s0_1 s0_2 from (Qb.vI HI0))):gb223≠g));replace HI0:=Aside0.mk (Qb.below (Qb.vI HI0) hb);clear hb hbox hg)|(refine gA (some 10) Tryz.func286 #[.pointer (some ⟨g,0,none⟩), .int .i64 a1] ?_;(with_reducible refine (Qr.calls k g s0_0 s0_1 s0_2 a1 t224 t227 t228 w0 _ (Qb.vI HI0) (Qb.vB HB) A3.out).mono ?_);rintro e w78 ⟨v225,rfl,ho0,hi,hb,hk⟩;refine ⟨_,rfl,?_⟩;replace BK223:=Aside0.mk (Qg.blk hk (g':=gb223) (o:= .cells #[.slice none 0 0] 26 (0,0)) (uK BK223) NB223_0.out (by simp));have HO226:=Aside0.mk (Kd.R_lower ho0 (Qb3 (w:=w) (g:=g) (row:=none) (vK HK)));replace HK:=Aside0.mk (Qg.trans (vK HK) hk (.inl rfl));replace HB:=Aside0.mk (hb);replace HI0:=Aside0.mk (hi);(try clear hb hk hi ho0))|(refine bE (N:=5) (cs:= #[.slice none 0 0]) (t:=26) ?_;intro gb229 hg w79 hbox hb;replace HO226:=Aside0.mk (Kd.R_below (uR HO226) hb);replace HB:=Aside0.mk (Qa (Qb.vB HB) hb);have BK229:=Aside0.mk (hbox);have GW229:=Aside0.mk ((by rw [hg];exact (Qb3 (w:=w) (g:=g) (row:=none) (vK HK)):w.heap.size≤gb229));have GE229:=Aside0.mk ((Nat.le_trans HW0.out (by rw [hg];exact (Qb3 (w:=w) (g:=g) (row:=none) (vK HK)):w.heap.size≤gb229):w0.heap.size≤gb229));replace HK:=Aside0.mk (Qg.trans (vK HK) (Qg.of_below hb g none) (.inl rfl));have NB223_229:=Aside0.mk ((by rw [hg];exact Nat.ne_of_lt (Qcc (uK BK223)):gb223≠gb229));have NB229_223:=Aside0.mk ((by rw [hg];exact Nat.ne_of_gt (Qcc (uK BK223)):gb229≠gb223));replace BK223:=Aside0.mk (Qc (uK BK223) hb);have NB0_229:=Aside0.mk ((by rw [hg];exact Nat.ne_of_lt (Qb.lt (show Qb w0 _ g s0_0 t227 t228 from (Qb.vI HI0))):g≠gb229));have NB229_0:=Aside0.mk ((by rw [hg];exact Nat.ne_of_gt (Qb.lt (show Qb w0 _ g s0_0 t227 t228 from (Qb.vI HI0))):gb229≠g));replace HI0:=Aside0.mk (Qb.below (Qb.vI HI0) hb);clear hb hbox hg;obtain ⟨Ao80,co80,eo80⟩:=Kd.R_slice HO226.out;subst eo80;have hnb81:=NB229_223.out;have hnc81:=NB223_229.out;have hnb82:=NB229_0.out;have hnc82:=NB0_229.out;have hcz83_0:=bC BK229;have hfz83_0:=Qf BK229.out 0)|(refine gA (some 13) Tryz.func273 #[.slice Ao80 t224.length co80] ?_;(with_reducible refine (Qe1.calls _ _ t224 t230 _ ?side1 ?side2 A4.out).mono ?_);(case side1=>refine (Kd.R_reads' (e:=3) (base:=w.heap.size) (ok:=fun k_=>True) (n:=t224.length) (c:=co80) ?_).2.2;exact (rF HO226 BK229 (.slice Ao80 t224.length co80)));(case side2=>exact (Kd.R_reads' HO226.out).2.1);rintro e w84 ⟨v231,rfl,ho0,hb⟩;refine ⟨_,rfl,?_⟩;have HO232:=Aside0.mk (Kd.R_lower (Kd.R_new' ho0 (Kd.R_lt (rF HO226 BK229 (.slice Ao80 t224.length co80)))) (Qb3 (w:=w) (g:=g) (row:=none) (vK HK)));replace HO226:=Aside0.mk (Kd.R_elder' (rF HO226 BK229 (.slice Ao80 t224.length co80)) (Kd.R_base ho0) hb);replace HI0:=Aside0.mk (Qb.below (show Qb w0 (w79.setCell ⟨gb229,0,none⟩ (.slice Ao80 t224.length co80)) g s0_0 t227 t228 from (Qb.vI HI0)) hb);replace BK223:=Aside0.mk (Qc (g:=gb223) (o:= .cells #[.slice none 0 0] 26 (0,0)) kF hb);replace BK229:=Aside0.mk (Qc (g:=gb229) (o:= .cells #[.slice Ao80 t224.length co80] 26 (0,0)) (by (with_reducible repeat (first|refine Qk ?_ _|refine Qj ?_|refine Qi ?_ _));refine Qcs (cs:= #[.slice none 0 0]) ?_ 0 _ rfl;(with_reducible repeat (first|refine Qk ?_ _|refine Qj ?_|refine Qi ?_ _));exact BK229.out) hb);replace HK:=Aside0.mk (Qg.trans (vK HK) (Qg.of_below hb g none) (.inl rfl));replace HB:=Aside0.mk (Qa (Qb.vB HB) hb);(try clear hb ho0);obtain ⟨Ao85,co85,eo85⟩:=Kd.R_slice HO232.out;subst eo85;have hcz86_0:=bC BK229;have hfz86_0:=Qf BK229.out 0)|(refine gA (some 16) Tryz.func162 #[.pointer (some ⟨g,0,none⟩), .int .i64 20] ?_;(with_reducible refine (Qz.calls g s0_0 t227 t228 20 t233 t234 t235 w0 _ (Qb.vI HI0) (Qb.vB HB) A5.out).mono ?_);rintro e w87 ⟨rfl,hi,hb,hk⟩;refine ⟨_,rfl,?_⟩;replace BK223:=Aside0.mk (Qg.blk hk (g':=gb223) (o:= .cells #[.slice none 0 0] 26 (0,0)) kF NB223_0.out (by simp));replace HO226:=Aside0.mk (Kd.R_mono (Kd.R_keep (Qb.apart (show Qb w0 _ g s0_0 t227 t228 from (Qb.vI HI0)) (rF HO226 BK229 (.slice Ao85 t230.length co85)) (by decide)) hk (fun _ h=>h.2)) (fun _ h=>h.1));replace HO232:=Aside0.mk (Kd.R_mono (Kd.R_keep (Qb.apart (show Qb w0 _ g s0_0 t227 t228 from (Qb.vI HI0)) (rF HO232 BK229 (.slice Ao85 t230.length co85)) (by decide)) hk (fun _ h=>h.2)) (fun _ h=>h.1));replace BK229:=Aside0.mk (Qg.blk hk (g':=gb229) (o:= .cells #[.slice Ao85 t230.length co85] 26 (0,0)) (by (with_reducible repeat (first|refine Qk ?_ _|refine Qj ?_|refine Qi ?_ _));refine Qcs (cs:= #[.slice Ao80 t224.length co80]) ?_ 0 _ rfl;(with_reducible repeat (first|refine Qk ?_ _|refine Qj ?_|refine Qi ?_ _));exact BK229.out) NB229_0.out (by simp));replace HK:=Aside0.mk (Qg.trans (vK HK) hk (.inl rfl));replace HB:=Aside0.mk (hb);replace HI0:=Aside0.mk (hi);(try clear hb hk hi);have hcz88_0:=bC BK229;have hfz88_0:=Qf BK229.out 0;have hnb89:=NB223_0.out;have hnc89:=NB0_223.out;have hcz90_0:=bC BK223;have hfz90_0:=Qf BK223.out 0))
    refine bodyPost_ret (results_cell_row rfl _ _ gb223 26 #[.slice Ao85 t230.length co85] (0,0) _ rfl (by (with_reducible repeat (first|refine Qk ?_ _|refine Qj ?_|refine Qi ?_ _));refine Qcs (cs:= #[.slice none 0 0]) ?_ 0 _ rfl;(with_reducible repeat (first|refine Qk ?_ _|refine Qj ?_|refine Qi ?_ _));exact BK223.out) Tryz.underlying26 rfl (by kernel_rfl)) rfl ?_;exact ⟨_,by first|rfl|(simp [Qd,Qe] <;>rfl)|(simp [*,Qd,Qe] <;>rfl),by (with_reducible repeat (first|apply Kd.R_alloc|apply Kd.R_drewN|apply Kd.R_drew));exact Kd.R_mono (Kd.R_far (p:=⟨gb223,0,none⟩) (Kd.R_types HO232.out BK223.out (by decide)) (fun _ hk=>hk.2) (.slice Ao85 t230.length co85)) (fun _ hk=>trivial),(Qb.vI HI0),(Qb.vB HB),(vK HK)⟩
end Go.Proofs.YtkgngggppcmpfaaGreat.L
end
section
namespace Go.Proofs.YtkgngggppcmpfaaGreat.L
open Go.RowKit Go.Proofs.YtkgngggppcmpfaaGreatW.PrintWords Go.Proofs.YtkgngggppcmpfaaGreatW.PrintLast Go.Proofs.YtkgngggppcmpfaaGreatW.PrintMore
attribute [local go_sem] Qt Qv Q2 Q3 Qm Qn Qu Qw
set_option linter.unusedVariables false
set_option linter.unusedSimpArgs false
def Qcq.f (a0 : Int) (a1 : Int) : Option (Bool) := if 0 ≤ a1 then (some ((Int.tmod (shr .i64 a0 a1) 2) == 1)) else (none)
set_option maxHeartbeats 8000000 in
set_option maxRecDepth 100000 in
theorem Qcq.calls (a0 : Int) (a1 : Int) (r : Bool) (w : World) (h : Qcq.f a0 a1 = some r) :
 Calls Tryz.prog 253 #[.int .i64 a0, .int .i64 a1] w fun e w'=>e= .returned (.bool r)∧Drawn0 w w':=by
 have H:(if 0≤a1 then (some ((Int.tmod (shr .i64 a0 a1) 2)==1)) else (none))=some r:=h;clear h
 by_cases c3:0≤a1
 ·
  rw [if_pos c3] at H;have c3b0:=eq_true c3;have c3b1:=decide_eq_true c3;clear c3;obtain ⟨ji4,hji4⟩: ∃ j_:Int,(shr .i64 a0 a1)=j_:=⟨_,rfl⟩
  replace H:(some ((Int.tmod (ji4) 2)==1))=some r:=by first|(rw [hji4] at H;exact H)|(simp only [hji4] at H ⊢;exact H)
  have hji4_:(a0 / 2 ^ min a1.toNat 64)=ji4:=hji4;have hji4z:a1≤64→(a0 / 2 ^ a1.toNat)=ji4:=Qjy hji4;obtain rfl:=Option.some.inj H;go_enter Tryz.func253,Tryz.ntmps253;go_wp2
  go_ret
  exact ⟨by first|rfl|(simp;done)|(simp only [←hji4] <;>(first|rfl|simp))|(simp [*];done),by repeat (first|exact Drawn0.refl _|apply Drawn0.step)⟩
 ·
  rw [if_neg c3] at H;exact absurd H (by simp)
end Go.Proofs.YtkgngggppcmpfaaGreat.L
end
section
namespace Go.Proofs.YtkgngggppcmpfaaGreat.L
open Go.RowKit Go.Proofs.YtkgngggppcmpfaaGreatW.PrintWords Go.Proofs.YtkgngggppcmpfaaGreatW.PrintLast Go.Proofs.YtkgngggppcmpfaaGreatW.PrintMore Go.Proofs.YtkgngggppcmpfaaGreat.X
attribute [local go_sem] Qt Qv Q2 Q3 Qm Qn Qu Qw
set_option linter.unusedVariables false
set_option linter.unusedSimpArgs false
mutual
def Q7.l0 : Nat → List Int → List Int → Int → Int → Option (List Int)
 |0,_,_,_,_=>none
 |k+1,x3,x12,x13,x14=>if x14<x13 then (if 0≤x14 then (if x14<(x12.length:Int) then (Q7.l1 k x3 x14 (rd x12 x14) 0 x12 x13 x14) else (none)) else (none)) else (some x3)
def Q7.l1 : Nat → List Int → Int → Int → Int → List Int → Int → Int → Option (List Int)
 |0,_,_,_,_,_,_,_=>none
 |k+1,x3,x4,x5,x6,x12,x13,x14=>if x6<x4 then ((Qcq.f x5 x6).bind fun t259=>(if t259=true then (if 0≤x4 then (if x4<(x3.length:Int) then (if 0≤x6 then (if x6<(x3.length:Int) then ((Qed.f (rd x3 x4) (wrap64 ((rd x3 x6)+1))).bind fun t262=>(Q7.l1 k (x3.set (x4:Int).toNat t262) x4 x5 (wrap64 (x6+1)) x12 x13 x14)) else (none)) else (none)) else (none)) else (none)) else (Q7.l1 k x3 x4 x5 (wrap64 (x6+1)) x12 x13 x14))) else (Q7.l0 k x3 x12 x13 (wrap64 (x14+1)))
end
def Q7.f (k : Nat) (l0_0 : List Int) : Option (List Int) := if 0 ≤ (l0_0.length : Int) then (if ((l0_0.length : Int) : Int).toNat ≤ 35184372088832 then (Q7.l0 k (List.replicate ((l0_0.length : Int) : Int).toNat 0) l0_0 (l0_0.length : Int) 0) else (none)) else (none)
theorem Q7.mono_l : ∀ k, (∀ y0 y1 y2 y3, LeO (Q7.l0 k y0 y1 y2 y3) (Q7.l0 (k + 1) y0 y1 y2 y3)) ∧ (∀ y0 y1 y2 y3 y4 y5 y6, LeO (Q7.l1 k y0 y1 y2 y3 y4 y5 y6) (Q7.l1 (k + 1) y0 y1 y2 y3 y4 y5 y6))
 |0=>⟨fun _ _ _ _ r h=>by simp [Q7.l0] at h,fun _ _ _ _ _ _ _ r h=>by simp [Q7.l1] at h⟩
 |k+1=>by
  obtain ⟨ih0,ih1⟩:=Q7.mono_l k;refine ⟨?_,?_⟩
  all_goals
   intros
   first|unfold Q7.l0|unfold Q7.l1
   repeat' (with_reducible first|apply ih0|apply ih1|exact LeO.refl _|exact LeO.none _|refine LeO.ite ?_ ?_|refine LeO.bind ?_ (fun _=> ?_))
theorem Q7.mono : ∀ a0 k, LeO (Q7.f k a0) (Q7.f (k + 1) a0) := by
 intro a0 k;obtain ⟨ih0,ih1⟩:=Q7.mono_l k;unfold Q7.f
 repeat' (with_reducible first|apply ih0|apply ih1|exact LeO.refl _|exact LeO.none _|refine LeO.ite ?_ ?_|refine LeO.bind ?_ (fun _=> ?_))
def Q7.T9 : Bool × List (List Nat × List Nat) := (true, [([], []), ([], []), ([], []), ([], []), ([2, 3], [2, 3]), ([4], [4]), ([], []), ([], []), ([6, 7], [6, 7]), ([8], [8]), ([9], [9]), ([5, 10], [5, 10]), ([0, 1, 0, 1, 2, 3, 4, 5, 6, 7, 8, 9, 10, 11], [0, 1]), ([12, 11, 11, 0, 1, 2, 3, 4, 5, 6, 7, 8, 9, 10, 11], [11, 12])])
def Q7.B9 : List Nat := [0, 0, 0, 0, 12, 28, 0, 0, 192, 448, 960, 2044, 4095, 8191]
theorem Q7.tab9 : rtab .any (Qf2 Tryz.f280 9) = Q7.T9 := by kernel_rfl
theorem Q7.bits9 : Qd9 Q7.T9.2 Q7.B9 = true := by kernel_rfl
set_option maxHeartbeats 8000000 in
set_option maxRecDepth 100000 in
theorem Q7.calls (k : Nat) (A0_0 : Option Addr) (c0_0 : Nat) (l0_0 : List Int) (r : List Int) (w : World) (hr0_0 : Kd.C (Kd.int .i64) w A0_0 l0_0.length l0_0) (hc0_0 : l0_0.length ≤ c0_0) (h : Q7.f k l0_0 = some r) :
 Calls Tryz.prog 280 #[.agg #[.slice A0_0 l0_0.length c0_0]] w fun e w'=> ∃ v0_:Value,e= .returned (v0_)∧Kd.R (Kd.int .i64) 3 w' w.heap.size (fun _=>True) v0_ r∧Below w.heap.size w w':=by
 have hu26:=Tryz.underlying26;have HR0_0:=Aside0.mk hr0_0;have HC0_0:=Aside0.mk hc0_0;clear hr0_0 hc0_0;have HB:=Aside0.mk (Below.refl w.heap.size w);have H:(if 0≤(l0_0.length:Int) then (if ((l0_0.length:Int):Int).toNat≤35184372088832 then (Q7.l0 k (List.replicate ((l0_0.length:Int):Int).toNat 0) l0_0 (l0_0.length:Int) 0) else (none)) else (none))=some r:=h;clear h
 by_cases c2:0≤(l0_0.length:Int)
 ·
  rw [if_pos c2] at H;have c2b0:=eq_true c2;have c2b1:=decide_eq_true c2;clear c2
  by_cases c3:((l0_0.length:Int):Int).toNat≤35184372088832
  ·
   rw [if_pos c3] at H;have c3b0:=eq_true c3;have c3b1:=decide_eq_true c3;clear c3;obtain ⟨y255,hy255⟩: ∃ y_:List Int,y_=(List.replicate ((l0_0.length:Int):Int).toNat 0):=⟨_,rfl⟩
   replace H:(Q7.l0 k y255 l0_0 (l0_0.length:Int) 0)=some r:=by first|(rw [hy255];with_reducible exact H)|(have H2_:=(Option.bind_some _ _).symm.trans H;rw [hy255];with_reducible exact H2_)|(have H2_:=(Option.bind_some _ _).symm.trans H;with_reducible exact H2_)|with_reducible exact H|(rw [hy255];exact H)|exact H
   have Ny255:=Aside0.mk hy255;clear hy255;have H':=Aside0.mk H;clear H;go_enter Tryz.func280,Tryz.ntmps280;go_wp2_with (first|(refine bE (N:=1) (cs:= #[.slice A0_0 l0_0.length c0_0]) (t:=26) ?_;intro gb254 hg w4 hbox hb;have BK254:=Aside0.mk (hbox);have GW254:=Aside0.mk ((gV hg (uB HB)));have GE254:=GW254;replace HB:=Aside0.mk (Qa (uB HB) hb);clear hb hbox hg;have hcz5_0:=bC BK254;have hfz5_0:=Qf BK254.out 0)|((with_reducible refine Qc0 (N:=10) rfl ?_);refine Kd.R_make (Kd.int .i64) _ 3 rfl (N:=10) rfl 24 _ _ rfl (l0_0.length:Int) rfl rfl Tryz.underlying24 (.int .i64 0) 8 Qfm rfl (by decide) (by omega) 0 (ok:=fun _=>True) (okp:=fun _=>True) rfl (fun _ hk=>hk) trivial (of_decide_eq_true (by first|(with_reducible assumption)|assumption)) (Nat.le_trans (Nat.mul_le_mul_right _ (of_decide_eq_true (by first|(with_reducible assumption)|assumption):(l0_0.length:Int).toNat≤35184372088832)) (by omega)) (Below.refl _ _) (Nat.le_refl _) ?_;intro v256 w6 ho7 hb hg_ hnew_;clear hg_ hnew_;(first|rw [←Ny255.out] at ho7|(simp only [Int.reduceToNat] at ho7;rw [←Ny255.out] at ho7));have HO257:=Aside0.mk (Kd.R_lower ho7 (Qp (uB HB)));replace BK254:=Aside0.mk (Qc (uK BK254) hb);replace HB:=Aside0.mk (Qa (uB HB) hb);clear hb ho7;have hcz8_0:=bC BK254;have hfz8_0:=Qf BK254.out 0))
   go_loopg [14] k (fun kq v14 w'=> ∃ (x3_1:List Int) (x14_1:Int),v14= .int .i64 x14_1∧Aside0 (Q7.l0 kq x3_1 l0_0 (l0_0.length:Int) x14_1=some r)∧Aside0 (kq≤k)∧Aside0 (Kd.R (Kd.int .i64) 3 w' w.heap.size (fun _=>True) v256 x3_1)∧Aside0 (w'.heap[gb254]? =some (.cells #[(.slice A0_0 l0_0.length c0_0)] 26 (0,0)))∧Aside0 (Below w.heap.size w w'))
   case atStart=>exact ⟨(y255),(0),(by first|rfl|(simp;done)|(simp [*];done)),H',⟨Nat.le_refl _⟩,⟨uR HO257⟩,⟨uK BK254⟩,⟨uB HB⟩⟩
   case round=>
    clear H'
    try clear c2
    try clear c2b0
    try clear c2b1
    try clear p2
    try clear c3
    try clear c3b0
    try clear c3b1
    try clear hcz5_0
    try clear hcz8_0
    try clear hfz5_0
    try clear hfz8_0
    obtain ⟨x3_1,x14_1,rfl,HA,HK1,HO_3,BK254,HB⟩:=hrel;cases gk with
    |zero=>exact absurd HA.out (by simp [Q7.l0])
    |succ k1=>
     have H:=HA.out;clear HA;simp only [Q7.l0] at H
     by_cases c9:x14_1<(l0_0.length:Int)
     ·
      rw [if_pos c9] at H;have c9b0:=decide_eq_true c9;clear c9
      by_cases c10:0≤x14_1
      ·
       rw [if_pos c10] at H;have c10b0:=decide_eq_true c10;clear c10
       by_cases c11:x14_1<(l0_0.length:Int)
       ·
        rw [if_pos c11] at H;have c11b0:=decide_eq_true c11;clear c11;have H':=Aside0.mk H;clear H;have p258:0≤(x14_1:Int):=of_decide_eq_true (by first|(with_reducible assumption)|assumption);have q258:x14_1<(l0_0.length:Int):=of_decide_eq_true (by first|(with_reducible assumption)|assumption);obtain ⟨ad258,e258,hx258_0⟩:=Kd.at_int HR0_0.out x14_1 p258 q258;cases e258;replace hx258_0:=(HB.out.cell (World.block_lt_of_cell? w _ hx258_0)).trans hx258_0;replace p258:=eq_true p258;replace q258:=eq_true q258;go_wp2
        go_loopg [6] k1 (fun kq v6 w'=> ∃ (x3_2:List Int) (x6_2:Int),v6= .int .i64 x6_2∧Aside0 (Q7.l1 kq x3_2 x14_1 (rd l0_0 x14_1) x6_2 l0_0 (l0_0.length:Int) x14_1=some r)∧Aside0 (kq≤k1)∧Aside0 (Kd.R (Kd.int .i64) 3 w' w.heap.size (fun _=>True) v256 x3_2)∧Aside0 (w'.heap[gb254]? =some (.cells #[(.slice (some ad258) l0_0.length c0_0)] 26 (0,0)))∧Aside0 (Below w.heap.size w w'))
        case atStart=>exact ⟨(x3_1),(0),(by first|rfl|(simp;done)|(simp [*];done)),H',⟨Nat.le_refl _⟩,⟨uR HO_3⟩,⟨uK BK254⟩,⟨uB HB⟩⟩
        case round=>
         clear H'
         try clear c1
         try clear c2
         try clear c2b0
         try clear c2b1
         try clear p2
         try clear q2
         try clear hx2
         try clear c3
         try clear c3b0
         try clear c3b1
         try clear c9
         try clear c9b0
         try clear c10
         try clear c10b0
         try clear c11
         try clear c11b0
         try clear hcz5_0
         try clear hcz8_0
         try clear hfz5_0
         try clear hfz8_0
         try clear hx258_0
         try clear p2
         try clear p258
         try clear q258
         obtain ⟨x3_2,x6_2,rfl,HA,HK2,HO_3,BK254,HB⟩:=hrel;cases gk with
         |zero=>exact absurd HA.out (by simp [Q7.l1])
         |succ k2=>
          have H:=HA.out;clear HA;simp only [Q7.l1] at H
          by_cases c12:x6_2<x14_1
          ·
           rw [if_pos c12] at H;have c12b0:=decide_eq_true c12;clear c12;obtain ⟨t259,A13,H⟩:=bs H;(try dsimp only at H)
           by_cases c14:t259=true
           ·
            subst c14;rw [if_pos rfl] at H
            by_cases c15:0≤x14_1
            ·
             rw [if_pos c15] at H;have c15b0:=decide_eq_true c15;clear c15
             by_cases c16:x14_1<(x3_2.length:Int)
             ·
              rw [if_pos c16] at H;have c16b0:=decide_eq_true c16;clear c16
              by_cases c17:0≤x6_2
              ·
               rw [if_pos c17] at H;have c17b0:=decide_eq_true c17;clear c17
               by_cases c18:x6_2<(x3_2.length:Int)
               ·
                rw [if_pos c18] at H;have c18b0:=decide_eq_true c18;clear c18;obtain ⟨t262,A19,H⟩:=bs H;(try dsimp only at H)
                obtain ⟨y263,hy263⟩: ∃ y_:List Int,y_=(x3_2.set (x14_1:Int).toNat t262):=⟨_,rfl⟩
                replace H:(Q7.l1 k2 y263 x14_1 (rd l0_0 x14_1) (wrap64 (x6_2+1)) l0_0 (l0_0.length:Int) x14_1)=some r:=by first|(rw [hy263];with_reducible exact H)|(have H2_:=(Option.bind_some _ _).symm.trans H;rw [hy263];with_reducible exact H2_)|(have H2_:=(Option.bind_some _ _).symm.trans H;with_reducible exact H2_)|with_reducible exact H|(rw [hy263];exact H)|exact H
                have Ny263:=Aside0.mk hy263;clear hy263;have H':=Aside0.mk H;clear H
                try go_wp2_with (first|(refine gA (some 26) Tryz.func253 #[.int .i64 (rd l0_0 x14_1), .int .i64 x6_2] ?_;(with_reducible refine (Qcq.calls (rd l0_0 x14_1) x6_2 true _ A13.out).mono ?_);rintro e w' ⟨rfl,⟨nd,rfl⟩⟩;refine ⟨_,rfl,?_⟩;(try (rw [Qhg wr];generalize hq_:World.drewN wr _=wr;have n0_:Aside0 (Kd.R (Kd.int .i64) 3 wr w.heap.size (fun _=>True) v256 x3_2):=⟨by rw [←hq_];exact (uR HO_3)⟩;have n1_:Aside0 (wr.heap[gb254]? =some (.cells #[.slice (some ad258) l0_0.length c0_0] 26 (0,0))):=⟨by rw [←hq_];exact (uK BK254)⟩;have n2_:Aside0 (Below w.heap.size w wr):=⟨by rw [←hq_];exact (uB HB)⟩;clear HO_3 BK254 HB hq_;have HO_3:=n0_;have BK254:=n1_;have HB:=n2_;clear n0_ n1_ n2_))))
                replace HO_3:=Aside0.mk (Kd.R_drew HO_3.out);replace BK254:=Aside0.mk (Qj BK254.out);replace HB:=Aside0.mk (Qy HB.out);obtain ⟨Ao22,co22,eo22⟩:=Kd.R_slice HO_3.out
                (first|subst eo22|(injection eo22 with f1_ f2_ f3_;have f4_:=f1_.symm;have f5_:=f3_.symm;clear f1_ f2_ f3_;subst f4_;subst f5_))
                have p260:0≤(x14_1:Int):=of_decide_eq_true (by first|(with_reducible assumption)|assumption);have q260:x14_1<(x3_2.length:Int):=of_decide_eq_true (by first|(with_reducible assumption)|assumption);obtain ⟨ad260,e260,hx260_0⟩:=Kd.at_int (Kd.R_reads' HO_3.out).2.2 x14_1 p260 q260;cases e260;replace p260:=eq_true p260;replace q260:=eq_true q260;have p261:0≤(x6_2:Int):=of_decide_eq_true (by first|(with_reducible assumption)|assumption);have q261:x6_2<(x3_2.length:Int):=of_decide_eq_true (by first|(with_reducible assumption)|assumption);obtain ⟨ad261,e261,hx261_0⟩:=Kd.at_int (Kd.R_reads' HO_3.out).2.2 x6_2 p261 q261;obtain rfl:ad260=ad261:=(by injection e261)
                replace p261:=eq_true p261;replace q261:=eq_true q261;refine sU (n:=14) (S:=fun w'=>w'.cell? (ad260.add (x14_1).toNat)=some (.int .i64 (rd x3_2 x14_1))∧w'.cell? (ad260.add (x6_2).toNat)=some (.int .i64 (rd x3_2 x6_2))) (ds:= [13]) ⟨hx260_0,hx261_0⟩ (fun hHeld=> ?_);refine Qeg Q7.tab9 Q7.bits9 (fun HT_ HW_=> ?_);generalize wr.drew=w21 at HO_3 BK254 HB hx260_0 hx261_0 hHeld ⊢;refine pU 0 27 ?_;refine pU 1 28 ?_;refine pU 2 29 ?_;refine pU 3 30 ?_;refine pU 4 31 ?_;refine pU 6 33 ?_;refine pU 7 34 ?_;refine pU 8 35 ?_;refine tW 5 32 hHeld ?_;refine tW 9 36 hHeld ?_;refine pU 10 37 ?_;refine oU 11 (some 38) fun K hK=> ?_
                refine Qes Tryz.func332 (by kernel_rfl) rfl #[.int .i64 (rd x3_2 x14_1), .int .i64 (wrap64 ((rd x3_2 x6_2)+1))] (by rfl) rfl rfl (by (try simp only [List.map_toArray,List.map_cons,List.map_nil]);first|done|rfl|(simp only [List.length_drop,List.length_take];rfl)) ?_
                with_reducible refine (Qed.calls (rd x3_2 x14_1) (wrap64 ((rd x3_2 x6_2)+1)) t262 _ A19.out).mono ?_
                rintro e w' ⟨rfl,⟨nd,rfl⟩⟩;refine ⟨_,rfl,?_⟩;have p20:0≤(x14_1:Int):=of_decide_eq_true (by first|(with_reducible assumption)|assumption);have q20:(x14_1:Int)<((x3_2.length:Int):Int):=of_decide_eq_true (by first|(with_reducible assumption)|assumption);obtain ⟨go20,co20,eo20,gb20,gl20,cl20,HG20⟩:=Kd.R_form HO_3.out (by omega)
                (first|cases eo20|(injection eo20 with ea_ en_ ec_;(first|subst ea_|(injection ea_ with ea_;subst ea_));subst ec_;clear en_))
                have GB20:=Aside0.mk gb20;have GG20:=Aside0.mk HG20;clear gb20 gl20 HG20
                (first|simp only [Qe2] at hx260_0|skip)
                (first|simp only [Qe2] at hx261_0|skip)
                obtain ⟨hx20_0,hf20_0⟩:=Kd.R_celln 0 HO_3.out (x14_1:Int) p20 q20;replace p20:=eq_true p20;replace q20:=eq_true q20;have HP23:=Kd.R_putn HO_3.out (x14_1:Int) t262;rw [←Ny263.out] at HP23;have HQ23:=Aside0.mk HP23;clear HP23;refine hK.out _ _ ⟨hHeld.1,hHeld.2⟩ (fun hHeld=> ?_);clear hK K;refine nU 38 ?_;refine pU 12 39 ?_;refine lU 13 none fun K hK=> ?_
                refine sK ?_;refine hK.out _ _ ?_;clear hK K;refine dU ?_
                try go_wp2
                go_roundg k2
                case measure=>have:=HK1.out;have:=HK2.out;omega
                case rel=>exact ⟨(y263),(wrap64 (x6_2+1)),(by first|rfl|(simp;done)|(simp [*];done)),H',⟨by have:=HK1.out;have:=HK2.out;omega⟩,⟨by (with_reducible repeat (first|apply Kd.R_alloc|apply Kd.R_drewN|apply Kd.R_drew));exact HQ23.out⟩,⟨by (with_reducible repeat (first|refine Qk ?_ _|refine Qj ?_|refine Qi ?_ _));refine Qd8 ?_ (by have h_:=Kd.R_ne HO_3.out BK254.out (by decide);intro e_;exact h_ (by rw [e_];rfl)) _;(with_reducible repeat (first|refine Qk ?_ _|refine Qj ?_|refine Qi ?_ _));exact BK254.out⟩,⟨by repeat (first|(with_reducible first|exact HB.out|apply Qo|apply Qq|apply Qy|refine Q4 ?_ GB20.out|refine Q4 ?_ GE254.out)|exact HB.out)⟩⟩
               ·
                rw [if_neg c18] at H;exact absurd H (by simp)
              ·
               rw [if_neg c17] at H;exact absurd H (by simp)
             ·
              rw [if_neg c16] at H;exact absurd H (by simp)
            ·
             rw [if_neg c15] at H;exact absurd H (by simp)
           ·
            replace c14:=Bool.eq_false_iff.mpr c14;subst c14;rw [if_neg (show ¬ (false=true) by decide)] at H;have H':=Aside0.mk H;clear H;go_wp2_with (first|(refine gA (some 26) Tryz.func253 #[.int .i64 (rd l0_0 x14_1), .int .i64 x6_2] ?_;(with_reducible refine (Qcq.calls (rd l0_0 x14_1) x6_2 false _ A13.out).mono ?_);rintro e w' ⟨rfl,⟨nd,rfl⟩⟩;refine ⟨_,rfl,?_⟩));go_roundg k2
            case measure=>have:=HK1.out;have:=HK2.out;omega
            case rel=>exact ⟨(x3_2),(wrap64 (x6_2+1)),(by first|rfl|(simp;done)|(simp [*];done)),H',⟨by have:=HK1.out;have:=HK2.out;omega⟩,⟨uR HO_3⟩,⟨uK BK254⟩,⟨uB HB⟩⟩
          ·
           rw [if_neg c12] at H;have c12b0:=decide_eq_false c12;clear c12;have H':=Aside0.mk H;clear H;go_wp2;go_roundg k2
           case measure=>have:=HK1.out;have:=HK2.out;omega
           case rel=>exact ⟨(x3_2),(wrap64 (x14_1+1)),(by first|rfl|(simp;done)|(simp [*];done)),H',⟨by have:=HK1.out;have:=HK2.out;omega⟩,⟨uR HO_3⟩,⟨uK BK254⟩,⟨uB HB⟩⟩
       ·
        rw [if_neg c11] at H;exact absurd H (by simp)
      ·
       rw [if_neg c10] at H;exact absurd H (by simp)
     ·
      rw [if_neg c9] at H;have c9b0:=decide_eq_false c9;clear c9;obtain rfl:=Option.some.inj H;go_wp2
      go_ret
      exact ⟨_,by first|rfl|(simp [Qd,Qe] <;>rfl)|(simp [*,Qd,Qe] <;>rfl),uR HO_3,uB HB⟩
  ·
   rw [if_neg c3] at H;exact absurd H (by simp)
 ·
  rw [if_neg c2] at H;exact absurd H (by simp)
def Qch.l0 : Nat → Int → Int → Int → List Int → Option (Bool)
 |0,_,_,_,_=>none
 |k+1,x1,x2,x7,x265000=>if x7<x2 then (if 0≤x2 then (if x2<(x265000.length:Int) then ((Qcq.f (rd x265000 x2) x7).bind fun t268=>(if t268=true then (if 0≤x7 then (if x7<(x265000.length:Int) then ((Qcq.f (rd x265000 x7) x1).bind fun t270=>(if t270=true then (some false) else (Qch.l0 k x1 x2 (wrap64 (x7+1)) x265000))) else (none)) else (none)) else (Qch.l0 k x1 x2 (wrap64 (x7+1)) x265000))) else (none)) else (none)) else (some true)
def Qch.f (k : Nat) (l0_0 : List Int) (a1 : Int) (a2 : Int) : Option (Bool) := if 0 ≤ a2 then (if a2 < (l0_0.length : Int) then ((Qcq.f (rd l0_0 a2) a1).bind fun t266 => (if t266 = true then (Qch.l0 k a1 a2 (wrap64 (a1 + 1)) l0_0) else (some false))) else (none)) else (none)
theorem Qch.mono_l : ∀ k, (∀ y0 y1 y2 y3, LeO (Qch.l0 k y0 y1 y2 y3) (Qch.l0 (k + 1) y0 y1 y2 y3))
 |0=>fun _ _ _ _ r h=>by simp [Qch.l0] at h
 |k+1=>by
  have ih0:=Qch.mono_l k
  ·
   intro y0 y1 y2 y3;unfold Qch.l0
   repeat' first
   |(with_reducible exact ih0 _ _ _ _)
   |(with_reducible exact LeO.refl _)
   |(with_reducible exact LeO.none _)
   |(with_reducible refine LeO.ite ?_ ?_)
   |(with_reducible refine LeO.bind ?_ (fun _=> ?_))
   |exact ih0 _ _ _ _
   |exact LeO.none _
   |refine LeO.ite ?_ ?_
   |refine LeO.bind ?_ (fun _=> ?_)
theorem Qch.mono : ∀ a0 a1 a2 k, LeO (Qch.f k a0 a1 a2) (Qch.f (k + 1) a0 a1 a2) := by
 intro a0 a1 a2 k;have ih0:=Qch.mono_l k;unfold Qch.f
 repeat' (with_reducible first|apply ih0|exact LeO.refl _|exact LeO.none _|refine LeO.ite ?_ ?_|refine LeO.bind ?_ (fun _=> ?_))
set_option maxHeartbeats 8000000 in
set_option maxRecDepth 100000 in
theorem Qch.calls (k : Nat) (A0_0 : Option Addr) (c0_0 : Nat) (l0_0 : List Int) (a1 : Int) (a2 : Int) (r : Bool) (w : World) (hr0_0 : Kd.C (Kd.int .i64) w A0_0 l0_0.length l0_0) (hc0_0 : l0_0.length ≤ c0_0) (h : Qch.f k l0_0 a1 a2 = some r) :
 Calls Tryz.prog 351 #[.agg #[.slice A0_0 l0_0.length c0_0], .int .i64 a1, .int .i64 a2] w fun e w'=>e= .returned (.bool r)∧Below w.heap.size w w':=by
 have hu26:=Tryz.underlying26;have HR0_0:=Aside0.mk hr0_0;have HC0_0:=Aside0.mk hc0_0;clear hr0_0 hc0_0;have HB:=Aside0.mk (Below.refl w.heap.size w);have H:(if 0≤a2 then (if a2<(l0_0.length:Int) then ((Qcq.f (rd l0_0 a2) a1).bind fun t266=>(if t266=true then (Qch.l0 k a1 a2 (wrap64 (a1+1)) l0_0) else (some false))) else (none)) else (none))=some r:=h;clear h
 by_cases c4:0≤a2
 ·
  rw [if_pos c4] at H;have c4b0:=decide_eq_true c4;clear c4
  by_cases c5:a2<(l0_0.length:Int)
  ·
   rw [if_pos c5] at H;have c5b0:=decide_eq_true c5;clear c5;obtain ⟨t266,A6,H⟩:=bs H;(try dsimp only at H)
   by_cases c7:t266=true
   ·
    subst c7;rw [if_pos rfl] at H;have H':=Aside0.mk H;clear H;go_enter Tryz.func351,Tryz.ntmps351;go_wp2_with (first|(refine bE (N:=3) (cs:= #[.slice A0_0 l0_0.length c0_0]) (t:=26) ?_;intro gb264 hg w8 hbox hb;have BK264:=Aside0.mk (hbox);have GW264:=Aside0.mk ((gV hg (uB HB)));have GE264:=GW264;replace HB:=Aside0.mk (Qa (uB HB) hb);clear hb hbox hg;have hcz9_0:=bC BK264;have hfz9_0:=Qf BK264.out 0;have p265:0≤(a2:Int):=of_decide_eq_true (by first|(with_reducible assumption)|assumption);have q265:a2<(l0_0.length:Int):=of_decide_eq_true (by first|(with_reducible assumption)|assumption);obtain ⟨ad265,e265,hx265_0⟩:=Kd.at_int HR0_0.out a2 p265 q265;cases e265;replace hx265_0:=(HB.out.cell (World.block_lt_of_cell? w _ hx265_0)).trans hx265_0;replace p265:=eq_true p265;replace q265:=eq_true q265)|(refine gA (some 14) Tryz.func253 #[.int .i64 (rd l0_0 a2), .int .i64 a1] ?_;(with_reducible refine (Qcq.calls (rd l0_0 a2) a1 true _ A6.out).mono ?_);rintro e w' ⟨rfl,⟨nd,rfl⟩⟩;refine ⟨_,rfl,?_⟩))
    go_loopg [7] k (fun kq v7 w'=> ∃ (x7_1:Int),v7= .int .i64 x7_1∧Aside0 (Qch.l0 kq a1 a2 x7_1 l0_0=some r)∧Aside0 (kq≤k)∧Aside0 (w'.heap[gb264]? =some (.cells #[(.slice (some ad265) l0_0.length c0_0)] 26 (0,0)))∧Aside0 (Below w.heap.size w w'))
    case atStart=>exact ⟨(wrap64 (a1+1)),(by first|rfl|(simp;done)|(simp [*];done)),H',⟨Nat.le_refl _⟩,⟨uK BK264⟩,⟨uB HB⟩⟩
    case round=>
     clear H'
     try clear c2
     try clear p2
     try clear q2
     try clear hx2
     try clear c3
     try clear c4
     try clear c4b0
     try clear c5
     try clear c5b0
     try clear p6
     try clear c7
     try clear hcz9_0
     try clear hfz9_0
     try clear hx265_0
     try clear p265
     try clear q265
     obtain ⟨x7_1,rfl,HA,HK1,BK264,HB⟩:=hrel;cases gk with
     |zero=>exact absurd HA.out (by simp [Qch.l0])
     |succ k1=>
      have H:=HA.out;clear HA;simp only [Qch.l0] at H
      by_cases c10:x7_1<a2
      ·
       rw [if_pos c10] at H;have c10b0:=decide_eq_true c10;clear c10
       by_cases c11:0≤a2
       ·
        rw [if_pos c11] at H;have c11b0:=decide_eq_true c11;clear c11
        by_cases c12:a2<(l0_0.length:Int)
        ·
         rw [if_pos c12] at H;have c12b0:=decide_eq_true c12;clear c12;obtain ⟨t268,A13,H⟩:=bs H;(try dsimp only at H)
         by_cases c14:t268=true
         ·
          subst c14;rw [if_pos rfl] at H
          by_cases c15:0≤x7_1
          ·
           rw [if_pos c15] at H;have c15b0:=decide_eq_true c15;clear c15
           by_cases c16:x7_1<(l0_0.length:Int)
           ·
            rw [if_pos c16] at H;have c16b0:=decide_eq_true c16;clear c16;obtain ⟨t270,A17,H⟩:=bs H;(try dsimp only at H)
            by_cases c18:t270=true
            ·
             subst c18;rw [if_pos rfl] at H;obtain rfl:=Option.some.inj H;have hcz19_0:=bC BK264;have hfz19_0:=Qf BK264.out 0;have p267:0≤(a2:Int):=of_decide_eq_true (by first|(with_reducible assumption)|assumption);have q267:a2<(l0_0.length:Int):=of_decide_eq_true (by first|(with_reducible assumption)|assumption);obtain ⟨ad267,e267,hx267_0⟩:=Kd.at_int HR0_0.out a2 p267 q267;obtain rfl:ad265=ad267:=(by injection e267)
             replace hx267_0:=(HB.out.cell (World.block_lt_of_cell? w _ hx267_0)).trans hx267_0;replace p267:=eq_true p267;replace q267:=eq_true q267;go_wp2_with (first|(refine gA (some 29) Tryz.func253 #[.int .i64 (rd l0_0 a2), .int .i64 x7_1] ?_;(with_reducible refine (Qcq.calls (rd l0_0 a2) x7_1 true _ A13.out).mono ?_);rintro e w' ⟨rfl,⟨nd,rfl⟩⟩;refine ⟨_,rfl,?_⟩;have p269:0≤(x7_1:Int):=of_decide_eq_true (by first|(with_reducible assumption)|assumption);have q269:x7_1<(l0_0.length:Int):=of_decide_eq_true (by first|(with_reducible assumption)|assumption);obtain ⟨ad269,e269,hx269_0⟩:=Kd.at_int HR0_0.out x7_1 p269 q269;obtain rfl:ad265=ad269:=(by injection e269);replace hx269_0:=(HB.out.cell (World.block_lt_of_cell? w _ hx269_0)).trans hx269_0;replace p269:=eq_true p269;replace q269:=eq_true q269)|(go_at_call 253;(with_reducible refine (Qcq.calls (rd l0_0 x7_1) a1 true _ A17.out).mono ?_);rintro e w' ⟨rfl,⟨nd,rfl⟩⟩))
             go_ret
             exact ⟨by first|rfl|(simp [Qd,Qe] <;>rfl)|(simp [*,Qd,Qe] <;>rfl),uB HB⟩
            ·
             replace c18:=Bool.eq_false_iff.mpr c18;subst c18;rw [if_neg (show ¬ (false=true) by decide)] at H;have H':=Aside0.mk H;clear H;have hcz20_0:=bC BK264;have hfz20_0:=Qf BK264.out 0;have p267:0≤(a2:Int):=of_decide_eq_true (by first|(with_reducible assumption)|assumption);have q267:a2<(l0_0.length:Int):=of_decide_eq_true (by first|(with_reducible assumption)|assumption);obtain ⟨ad267,e267,hx267_0⟩:=Kd.at_int HR0_0.out a2 p267 q267;obtain rfl:ad265=ad267:=(by injection e267)
             replace hx267_0:=(HB.out.cell (World.block_lt_of_cell? w _ hx267_0)).trans hx267_0;replace p267:=eq_true p267;replace q267:=eq_true q267;go_wp2_with (first|(refine gA (some 29) Tryz.func253 #[.int .i64 (rd l0_0 a2), .int .i64 x7_1] ?_;(with_reducible refine (Qcq.calls (rd l0_0 a2) x7_1 true _ A13.out).mono ?_);rintro e w' ⟨rfl,⟨nd,rfl⟩⟩;refine ⟨_,rfl,?_⟩;have p269:0≤(x7_1:Int):=of_decide_eq_true (by first|(with_reducible assumption)|assumption);have q269:x7_1<(l0_0.length:Int):=of_decide_eq_true (by first|(with_reducible assumption)|assumption);obtain ⟨ad269,e269,hx269_0⟩:=Kd.at_int HR0_0.out x7_1 p269 q269;obtain rfl:ad265=ad269:=(by injection e269);replace hx269_0:=(HB.out.cell (World.block_lt_of_cell? w _ hx269_0)).trans hx269_0;replace p269:=eq_true p269;replace q269:=eq_true q269)|(go_at_call 253;(with_reducible refine (Qcq.calls (rd l0_0 x7_1) a1 false _ A17.out).mono ?_);rintro e w' ⟨rfl,⟨nd,rfl⟩⟩));go_roundg k1
             case measure=>have:=HK1.out;omega
             case rel=>exact ⟨(wrap64 (x7_1+1)),(by first|rfl|(simp;done)|(simp [*];done)),H',⟨by have:=HK1.out;omega⟩,⟨uK BK264⟩,⟨uB HB⟩⟩
           ·
            rw [if_neg c16] at H;exact absurd H (by simp)
          ·
           rw [if_neg c15] at H;exact absurd H (by simp)
         ·
          replace c14:=Bool.eq_false_iff.mpr c14;subst c14;rw [if_neg (show ¬ (false=true) by decide)] at H;have H':=Aside0.mk H;clear H;have hcz21_0:=bC BK264;have hfz21_0:=Qf BK264.out 0;have p267:0≤(a2:Int):=of_decide_eq_true (by first|(with_reducible assumption)|assumption);have q267:a2<(l0_0.length:Int):=of_decide_eq_true (by first|(with_reducible assumption)|assumption);obtain ⟨ad267,e267,hx267_0⟩:=Kd.at_int HR0_0.out a2 p267 q267;obtain rfl:ad265=ad267:=(by injection e267)
          replace hx267_0:=(HB.out.cell (World.block_lt_of_cell? w _ hx267_0)).trans hx267_0;replace p267:=eq_true p267;replace q267:=eq_true q267;go_wp2_with (first|(refine gA (some 29) Tryz.func253 #[.int .i64 (rd l0_0 a2), .int .i64 x7_1] ?_;(with_reducible refine (Qcq.calls (rd l0_0 a2) x7_1 false _ A13.out).mono ?_);rintro e w' ⟨rfl,⟨nd,rfl⟩⟩;refine ⟨_,rfl,?_⟩));go_roundg k1
          case measure=>have:=HK1.out;omega
          case rel=>exact ⟨(wrap64 (x7_1+1)),(by first|rfl|(simp;done)|(simp [*];done)),H',⟨by have:=HK1.out;omega⟩,⟨uK BK264⟩,⟨uB HB⟩⟩
        ·
         rw [if_neg c12] at H;exact absurd H (by simp)
       ·
        rw [if_neg c11] at H;exact absurd H (by simp)
      ·
       rw [if_neg c10] at H;have c10b0:=decide_eq_false c10;clear c10;obtain rfl:=Option.some.inj H;go_wp2
       go_ret
       exact ⟨by first|rfl|(simp [Qd,Qe] <;>rfl)|(simp [*,Qd,Qe] <;>rfl),uB HB⟩
   ·
    replace c7:=Bool.eq_false_iff.mpr c7;subst c7;rw [if_neg (show ¬ (false=true) by decide)] at H;obtain rfl:=Option.some.inj H;go_enter Tryz.func351,Tryz.ntmps351;go_wp2_with (first|(refine bE (N:=3) (cs:= #[.slice A0_0 l0_0.length c0_0]) (t:=26) ?_;intro gb264 hg w22 hbox hb;have BK264:=Aside0.mk (hbox);have GW264:=Aside0.mk ((gV hg (uB HB)));have GE264:=GW264;replace HB:=Aside0.mk (Qa (uB HB) hb);clear hb hbox hg;have hcz23_0:=bC BK264;have hfz23_0:=Qf BK264.out 0;have p265:0≤(a2:Int):=of_decide_eq_true (by first|(with_reducible assumption)|assumption);have q265:a2<(l0_0.length:Int):=of_decide_eq_true (by first|(with_reducible assumption)|assumption);obtain ⟨ad265,e265,hx265_0⟩:=Kd.at_int HR0_0.out a2 p265 q265;cases e265;replace hx265_0:=(HB.out.cell (World.block_lt_of_cell? w _ hx265_0)).trans hx265_0;replace p265:=eq_true p265;replace q265:=eq_true q265)|(refine gA (some 14) Tryz.func253 #[.int .i64 (rd l0_0 a2), .int .i64 a1] ?_;(with_reducible refine (Qcq.calls (rd l0_0 a2) a1 false _ A6.out).mono ?_);rintro e w' ⟨rfl,⟨nd,rfl⟩⟩;refine ⟨_,rfl,?_⟩))
    go_ret
    exact ⟨by first|rfl|(simp [Qd,Qe] <;>rfl)|(simp [*,Qd,Qe] <;>rfl),uB HB⟩
  ·
   rw [if_neg c5] at H;exact absurd H (by simp)
 ·
  rw [if_neg c4] at H;exact absurd H (by simp)
mutual
def Qbr.l0 : Nat → List (List Int) → Int → Int → List Int → Option ((List (List Int)))
 |0,_,_,_,_=>none
 |k+1,x3,x8,x9,x272000=>if x9<x8 then (Qbr.l1 k x3 x9 x8 x9 (x272000.length:Int) 0 x272000) else (some x3)
def Qbr.l1 : Nat → List (List Int) → Int → Int → Int → Int → Int → List Int → Option ((List (List Int)))
 |0,_,_,_,_,_,_,_=>none
 |k+1,x3,x4,x8,x9,x14,x15,x272000=>if x15<x14 then ((Qch.f k x272000 x4 x15).bind fun t272=>(if t272=true then (if x3.length<5864062014805 then (Qbr.l1 k (x3++ [(([x4,x15] :List Int))]) x4 x8 x9 x14 (wrap64 (x15+1)) x272000) else (none)) else (Qbr.l1 k x3 x4 x8 x9 x14 (wrap64 (x15+1)) x272000))) else (Qbr.l0 k x3 x8 (wrap64 (x9+1)) x272000)
end
def Qbr.f (k : Nat) (l0_0 : List Int) : Option ((List (List Int))) := Qbr.l0 k ([] : List (List Int)) (l0_0.length : Int) 0 l0_0
theorem Qbr.mono_l : ∀ k, (∀ y0 y1 y2 y3, LeO (Qbr.l0 k y0 y1 y2 y3) (Qbr.l0 (k + 1) y0 y1 y2 y3)) ∧ (∀ y0 y1 y2 y3 y4 y5 y6, LeO (Qbr.l1 k y0 y1 y2 y3 y4 y5 y6) (Qbr.l1 (k + 1) y0 y1 y2 y3 y4 y5 y6))
 |0=>⟨fun _ _ _ _ r h=>by simp [Qbr.l0] at h,fun _ _ _ _ _ _ _ r h=>by simp [Qbr.l1] at h⟩
 |k+1=>by
  obtain ⟨ih0,ih1⟩:=Qbr.mono_l k;refine ⟨?_,?_⟩
  all_goals
   intros
   first|unfold Qbr.l0|unfold Qbr.l1
   repeat' (with_reducible first|apply ih0|apply ih1|apply Qch.mono|exact LeO.refl _|exact LeO.none _|refine LeO.ite ?_ ?_|refine LeO.bind ?_ (fun _=> ?_))
theorem Qbr.mono : ∀ a0 k, LeO (Qbr.f k a0) (Qbr.f (k + 1) a0) := by
 intro a0 k;obtain ⟨ih0,ih1⟩:=Qbr.mono_l k;unfold Qbr.f
 repeat' (with_reducible first|apply ih0|apply ih1|apply Qch.mono|exact LeO.refl _|exact LeO.none _|refine LeO.ite ?_ ?_|refine LeO.bind ?_ (fun _=> ?_))
set_option maxHeartbeats 8000000 in
set_option maxRecDepth 100000 in
theorem Qbr.calls (k : Nat) (A0_0 : Option Addr) (c0_0 : Nat) (l0_0 : List Int) (r : List (List Int)) (w : World) (hr0_0 : Kd.C (Kd.int .i64) w A0_0 l0_0.length l0_0) (hc0_0 : l0_0.length ≤ c0_0) (h : Qbr.f k l0_0 = some r) :
 Calls Tryz.prog 335 #[.agg #[.slice A0_0 l0_0.length c0_0]] w fun e w'=> ∃ v0_:Value,e= .returned (v0_)∧Kd.S (Kd.slice 3 (Kd.int .i64)) 24 w' w.heap.size (fun _=>True) v0_ r∧Below w.heap.size w w':=by
 have hu26:=Tryz.underlying26;have HR0_0:=Aside0.mk hr0_0;have HC0_0:=Aside0.mk hc0_0;clear hr0_0 hc0_0;have HB:=Aside0.mk (Below.refl w.heap.size w);have H:(Qbr.l0 k ([] :List (List Int)) (l0_0.length:Int) 0 l0_0)=some r:=h;clear h;have H':=Aside0.mk H;clear H;go_enter Tryz.func335,Tryz.ntmps335;go_wp2_with (first|(refine bE (N:=1) (cs:= #[.slice A0_0 l0_0.length c0_0]) (t:=26) ?_;intro gb271 hg w2 hbox hb;have BK271:=Aside0.mk (hbox);have GW271:=Aside0.mk ((gV hg (uB HB)));have GE271:=GW271;replace HB:=Aside0.mk (Qa (uB HB) hb);clear hb hbox hg;have hcz3_0:=bC BK271;have hfz3_0:=Qf BK271.out 0))
 go_loopg [3,9] k (fun kq v3 v9 w'=> ∃ (x3_1:List (List Int)) (x9_1:Int),v9= .int .i64 x9_1∧Aside0 (Qbr.l0 kq x3_1 (l0_0.length:Int) x9_1 l0_0=some r)∧Aside0 (kq≤k)∧Aside0 (Kd.S (Kd.slice 3 (Kd.int .i64)) 24 w' w.heap.size (fun _=>True) v3 x3_1)∧Aside0 (w'.heap[gb271]? =some (.cells #[(.slice A0_0 l0_0.length c0_0)] 26 (0,0)))∧Aside0 (Below w.heap.size w w'))
 case atStart=>exact ⟨(([] :List (List Int))),(0),(by first|rfl|(simp;done)|(simp [*];done)),H',⟨Nat.le_refl _⟩,⟨by first|exact Kd.S_nil _ _ _ _ _|exact Kd.N_nil _ _ _ _ _|exact Kd.V_nil _ _ _ _ _|exact Kd.Q_nil _ _ _ _ _|exact Kd.R_nil _ _ _ _ _⟩,⟨uK BK271⟩,⟨uB HB⟩⟩
 case round=>
  clear H'
  try clear p2
  try clear c3
  try clear hcz3_0
  try clear hfz3_0
  obtain ⟨x3_1,x9_1,rfl,HA,HK1,HO_3,BK271,HB⟩:=hrel;cases gk with
  |zero=>exact absurd HA.out (by simp [Qbr.l0])
  |succ k1=>
   have H:=HA.out;clear HA;simp only [Qbr.l0] at H
   by_cases c4:x9_1<(l0_0.length:Int)
   ·
    rw [if_pos c4] at H;have c4b0:=decide_eq_true c4;clear c4;have H':=Aside0.mk H;clear H;have hcz5_0:=bC BK271;have hfz5_0:=Qf BK271.out 0;go_wp2
    go_loopg [3,15] k1 (fun kq v3 v15 w'=> ∃ (x3_2:List (List Int)) (x15_2:Int),v15= .int .i64 x15_2∧Aside0 (Qbr.l1 kq x3_2 x9_1 (l0_0.length:Int) x9_1 (l0_0.length:Int) x15_2 l0_0=some r)∧Aside0 (kq≤k1)∧Aside0 (Kd.S (Kd.slice 3 (Kd.int .i64)) 24 w' w.heap.size (fun _=>True) v3 x3_2)∧Aside0 (w'.heap[gb271]? =some (.cells #[(.slice A0_0 l0_0.length c0_0)] 26 (0,0)))∧Aside0 (Below w.heap.size w w'))
    case atStart=>exact ⟨(x3_1),(0),(by first|rfl|(simp;done)|(simp [*];done)),H',⟨Nat.le_refl _⟩,⟨uS HO_3⟩,⟨uK BK271⟩,⟨uB HB⟩⟩
    case round=>
     clear H'
     try clear p2
     try clear c3
     try clear c4
     try clear c4b0
     try clear hcz3_0
     try clear hcz5_0
     try clear hfz3_0
     try clear hfz5_0
     try clear p2
     obtain ⟨x3_2,x15_2,rfl,HA,HK2,HO_3,BK271,HB⟩:=hrel;cases gk with
     |zero=>exact absurd HA.out (by simp [Qbr.l1])
     |succ k2=>
      have H:=HA.out;clear HA;simp only [Qbr.l1] at H
      by_cases c6:x15_2<(l0_0.length:Int)
      ·
       rw [if_pos c6] at H;have c6b0:=decide_eq_true c6;clear c6;obtain ⟨t272,A7,H⟩:=bs H;(try dsimp only at H)
       by_cases c8:t272=true
       ·
        subst c8;rw [if_pos rfl] at H;obtain ⟨y273,hy273⟩: ∃ y_:List Int,y_=(([x9_1,x15_2] :List Int)):=⟨_,rfl⟩
        replace H:(if x3_2.length<5864062014805 then (Qbr.l1 k2 (x3_2++ [y273]) x9_1 (l0_0.length:Int) x9_1 (l0_0.length:Int) (wrap64 (x15_2+1)) l0_0) else (none))=some r:=by first|(rw [hy273];with_reducible exact H)|(have H2_:=(Option.bind_some _ _).symm.trans H;rw [hy273];with_reducible exact H2_)|(have H2_:=(Option.bind_some _ _).symm.trans H;with_reducible exact H2_)|with_reducible exact H|(rw [hy273];exact H)|exact H
        have Ny273:=Aside0.mk hy273;clear hy273
        by_cases c9:x3_2.length<5864062014805
        ·
         rw [if_pos c9] at H;have LMc9:=Aside0.mk c9;clear c9;obtain ⟨y276,hy276⟩: ∃ y_:List (List Int),y_=(x3_2++ [y273]):=⟨_,rfl⟩
         replace H:(Qbr.l1 k2 y276 x9_1 (l0_0.length:Int) x9_1 (l0_0.length:Int) (wrap64 (x15_2+1)) l0_0)=some r:=by first|(rw [hy276];with_reducible exact H)|(have H2_:=(Option.bind_some _ _).symm.trans H;rw [hy276];with_reducible exact H2_)|(have H2_:=(Option.bind_some _ _).symm.trans H;with_reducible exact H2_)|with_reducible exact H|(rw [hy276];exact H)|exact H
         have Ny276:=Aside0.mk hy276;clear hy276;have H':=Aside0.mk H;clear H;have hcz10_0:=bC BK271;have hfz10_0:=Qf BK271.out 0;go_wp2_with (first|(refine gA (some 21) Tryz.func351 #[.agg #[.slice A0_0 l0_0.length c0_0], .int .i64 x9_1, .int .i64 x15_2] ?_;(with_reducible refine (Qch.calls k2 _ _ l0_0 x9_1 x15_2 true _ (uD HR0_0 HB) HC0_0.out A7.out).mono ?_);rintro e w11 ⟨rfl,hb⟩;refine ⟨_,rfl,?_⟩;replace HO_3:=Aside0.mk (Kd.S_below (uS HO_3) hb);replace BK271:=Aside0.mk (Qc (uK BK271) hb);replace HB:=Aside0.mk (Qa (uB HB) hb);(try clear hb))|((with_reducible refine Qc0 (N:=25) rfl ?_);refine Kd.R_lit (Kd.int .i64) _ 3 ?hg (N:=25) ?hd (xs:=([x9_1,x15_2] :List Int)) (inner:= [.int .i64 x9_1, .int .i64 x15_2]) (ok:=fun _=>True) (okp:=fun _=>True) ?hr ?hp (fun _ hk=>hk) trivial (Below.refl _ _) (Nat.le_refl _) (by simp) ?_;(case hd=>rfl);(case hg=>rfl);(case hr=>first|(go_simp;done)|(go_simp;rfl));(case hp=>exact (Reps.one (show Kd.M (Kd.int .i64) _ _ _ x9_1 [.int .i64 x9_1] from rfl) (Reps.one (show Kd.M (Kd.int .i64) _ _ _ x15_2 [.int .i64 x15_2] from rfl) (Reps.none _ _))));intro v274 w12 ho13 hb hg_ hnew_;clear hg_ hnew_;(first|rw [←Ny273.out] at ho13|(simp only [Int.reduceToNat] at ho13;rw [←Ny273.out] at ho13));replace HO_3:=Aside0.mk (Kd.S_elder' (uS HO_3) (Kd.R_base ho13) hb);have HO275:=Aside0.mk (Kd.R_lower ho13 (Qp (uB HB)));replace BK271:=Aside0.mk (Qc (uK BK271) hb);replace HB:=Aside0.mk (Qa (uB HB) hb);clear hb ho13;obtain ⟨Ao15,co15,eo15⟩:=Kd.R_slice HO275.out;subst eo15)|((with_reducible refine Qc4 (b:= .append) (xs:= #[.tmp 22, .tmp 26]) rfl ?_);at_builtin;refine Kd.S_append (Kd.slice 3 (Kd.int .i64)) (w0:=w) w.heap.size rfl (.tmp 22) (.tmp 26) 40 24 (.slice none 0 0) 24 rfl Tryz.underlying40 Qfw rfl (by decide) (by omega) u3 x3_2 y273 [.slice Ao15 y273.length co15] (fun _=>True) (fun k_=>some k_=(.slice Ao15 y273.length co15:Value).ownBlock) rfl rfl ?aP (fun k_ hk_=>((Kd.R_mono (ok':=fun k_=>((fun _=>True)) k_∧some k_≠(u3:Value).ownBlock) (Kd.R_apart' (HO275.out) (Kd.S_typed HO_3.out) (by decide)) (fun k_ hk=>⟨trivial,hk.2⟩))).1 k_ hk_.symm) ?aF ?aO ?aB ?aS ?aL ?_;(case aP=>exact Kd.M_row (Kd.R_mono (Kd.R_tight rfl (Kd.R_mono (ok':=fun k_=>((fun _=>True)) k_∧some k_≠(u3:Value).ownBlock) (Kd.R_apart' (HO275.out) (Kd.S_typed HO_3.out) (by decide)) (fun k_ hk=>⟨trivial,hk.2⟩))) (fun _ h_=>h_)));(case aB=>exact (uB HB));(case aF=>exact (fun _ _=>trivial));(case aO=>exact (by (with_reducible repeat (first|apply Kd.S_alloc|apply Kd.S_drewN|apply Kd.S_drew));exact Kd.S_mono HO_3.out (fun k_ hk=>⟨trivial,fun e_=>hk.2 e_⟩)));(case aS=>exact (Qp (uB HB)));(case aL=>have:=LMc9.out;omega);intro v277 w14 ho hb hg hat;rw [←Ny276.out] at ho;replace BK271:=Aside0.mk (Qds (uK BK271) hg (Kd.S_ne HO_3.out BK271.out (by decide)));replace HB:=Aside0.mk (hb);have HO278:=Aside0.mk (ho);clear HO_3 HO275;clear ho hb hg hat));go_roundg k2
         case measure=>have:=HK1.out;have:=HK2.out;omega
         case rel=>exact ⟨(y276),(wrap64 (x15_2+1)),(by first|rfl|(simp;done)|(simp [*];done)),H',⟨by have:=HK1.out;have:=HK2.out;omega⟩,⟨uS HO278⟩,⟨uK BK271⟩,⟨uB HB⟩⟩
        ·
         rw [if_neg c9] at H;exact absurd H (by simp)
       ·
        replace c8:=Bool.eq_false_iff.mpr c8;subst c8;rw [if_neg (show ¬ (false=true) by decide)] at H;have H':=Aside0.mk H;clear H;have hcz16_0:=bC BK271;have hfz16_0:=Qf BK271.out 0;go_wp2_with (first|(refine gA (some 21) Tryz.func351 #[.agg #[.slice A0_0 l0_0.length c0_0], .int .i64 x9_1, .int .i64 x15_2] ?_;(with_reducible refine (Qch.calls k2 _ _ l0_0 x9_1 x15_2 false _ (uD HR0_0 HB) HC0_0.out A7.out).mono ?_);rintro e w17 ⟨rfl,hb⟩;refine ⟨_,rfl,?_⟩;replace HO_3:=Aside0.mk (Kd.S_below (uS HO_3) hb);replace BK271:=Aside0.mk (Qc (uK BK271) hb);replace HB:=Aside0.mk (Qa (uB HB) hb);(try clear hb)));go_roundg k2
        case measure=>have:=HK1.out;have:=HK2.out;omega
        case rel=>exact ⟨(x3_2),(wrap64 (x15_2+1)),(by first|rfl|(simp;done)|(simp [*];done)),H',⟨by have:=HK1.out;have:=HK2.out;omega⟩,⟨uS HO_3⟩,⟨uK BK271⟩,⟨uB HB⟩⟩
      ·
       rw [if_neg c6] at H;have c6b0:=decide_eq_false c6;clear c6;have H':=Aside0.mk H;clear H;go_wp2;go_roundg k2
       case measure=>have:=HK1.out;have:=HK2.out;omega
       case rel=>exact ⟨(x3_2),(wrap64 (x9_1+1)),(by first|rfl|(simp;done)|(simp [*];done)),H',⟨by have:=HK1.out;have:=HK2.out;omega⟩,⟨uS HO_3⟩,⟨uK BK271⟩,⟨uB HB⟩⟩
   ·
    rw [if_neg c4] at H;have c4b0:=decide_eq_false c4;clear c4;obtain rfl:=Option.some.inj H;go_wp2
    go_ret
    exact ⟨_,by first|rfl|(simp [Qd,Qe] <;>rfl)|(simp [*,Qd,Qe] <;>rfl),uS HO_3,uB HB⟩
def Qca.l0 : Nat → List Int → List (List Int) → Int → Int → Option (Bool)
 |0,_,_,_,_=>none
 |k+1,x3,x9,x10,x11=>if x11<x10 then (if 0≤x11 then (if x11<(x9.length:Int) then (if 1<((Qb2 x9 x11).length:Int) then (if 0≤(rd (Qb2 x9 x11) 1) then (if (rd (Qb2 x9 x11) 1)<(x3.length:Int) then (if 0<((Qb2 x9 x11).length:Int) then (if 0≤(rd (Qb2 x9 x11) 0) then (if (rd (Qb2 x9 x11) 0)<(x3.length:Int) then (if (rd x3 (rd (Qb2 x9 x11) 1))=(wrap64 ((rd x3 (rd (Qb2 x9 x11) 0))+1)) then (Qca.l0 k x3 x9 x10 (wrap64 (x11+1))) else (some false)) else (none)) else (none)) else (none)) else (none)) else (none)) else (none)) else (none)) else (none)) else (some true)
def Qca.f (k : Nat) (l0_0 : List Int) : Option (Bool) := (Q7.f k l0_0).bind fun t280 => ((Qbr.f k l0_0).bind fun t283 => (Qca.l0 k t280 t283 (t283.length : Int) 0))
theorem Qca.mono_l : ∀ k, (∀ y0 y1 y2 y3, LeO (Qca.l0 k y0 y1 y2 y3) (Qca.l0 (k + 1) y0 y1 y2 y3))
 |0=>fun _ _ _ _ r h=>by simp [Qca.l0] at h
 |k+1=>by
  have ih0:=Qca.mono_l k
  ·
   intro y0 y1 y2 y3;unfold Qca.l0
   repeat' first
   |(with_reducible exact ih0 _ _ _ _)
   |(with_reducible exact Q7.mono _ _)
   |(with_reducible exact Qbr.mono _ _)
   |(with_reducible exact LeO.refl _)
   |(with_reducible exact LeO.none _)
   |(with_reducible refine LeO.ite ?_ ?_)
   |(with_reducible refine LeO.bind ?_ (fun _=> ?_))
   |exact ih0 _ _ _ _
   |exact Q7.mono _ _
   |exact Qbr.mono _ _
   |exact LeO.none _
   |refine LeO.ite ?_ ?_
   |refine LeO.bind ?_ (fun _=> ?_)
theorem Qca.mono : ∀ a0 k, LeO (Qca.f k a0) (Qca.f (k + 1) a0) := by
 intro a0 k;have ih0:=Qca.mono_l k;unfold Qca.f
 repeat' (with_reducible first|apply ih0|apply Q7.mono|apply Qbr.mono|exact LeO.refl _|exact LeO.none _|refine LeO.ite ?_ ?_|refine LeO.bind ?_ (fun _=> ?_))
set_option maxHeartbeats 8000000 in
set_option maxRecDepth 100000 in
theorem Qca.calls (k : Nat) (A0_0 : Option Addr) (c0_0 : Nat) (l0_0 : List Int) (r : Bool) (w : World) (hr0_0 : Kd.C (Kd.int .i64) w A0_0 l0_0.length l0_0) (hc0_0 : l0_0.length ≤ c0_0) (h : Qca.f k l0_0 = some r) :
 Calls Tryz.prog 285 #[.agg #[.slice A0_0 l0_0.length c0_0]] w fun e w'=>e= .returned (.bool r)∧Below w.heap.size w w':=by
 have hu26:=Tryz.underlying26;have HR0_0:=Aside0.mk hr0_0;have HC0_0:=Aside0.mk hc0_0;clear hr0_0 hc0_0;have HB:=Aside0.mk (Below.refl w.heap.size w);have H:((Q7.f k l0_0).bind fun t280=>((Qbr.f k l0_0).bind fun t283=>(Qca.l0 k t280 t283 (t283.length:Int) 0)))=some r:=h;clear h;obtain ⟨t280,A2,H⟩:=bs H;(try dsimp only at H)
 obtain ⟨t283,A3,H⟩:=bs H;(try dsimp only at H)
 have H':=Aside0.mk H;clear H;go_enter Tryz.func285,Tryz.ntmps285;go_wp2_with (first|(refine bE (N:=1) (cs:= #[.slice A0_0 l0_0.length c0_0]) (t:=26) ?_;intro gb279 hg w4 hbox hb;have BK279:=Aside0.mk (hbox);have GW279:=Aside0.mk ((gV hg (uB HB)));have GE279:=GW279;replace HB:=Aside0.mk (Qa (uB HB) hb);clear hb hbox hg;have hcz5_0:=bC BK279;have hfz5_0:=Qf BK279.out 0)|(go_at_call 280;(with_reducible refine (Q7.calls k _ _ l0_0 t280 _ (uD HR0_0 HB) HC0_0.out A2.out).mono ?_);rintro e w6 ⟨v281,rfl,ho0,hb⟩;have HO282:=Aside0.mk (Kd.R_lower ho0 (Qp (uB HB)));replace BK279:=Aside0.mk (Qc (uK BK279) hb);replace HB:=Aside0.mk (Qa (uB HB) hb);(try clear hb ho0);have hcz7_0:=bC BK279;have hfz7_0:=Qf BK279.out 0)|(go_at_call 335;(with_reducible refine (Qbr.calls k _ _ l0_0 t283 _ (uD HR0_0 HB) HC0_0.out A3.out).mono ?_);rintro e w8 ⟨v284,rfl,ho0,hb⟩;have HO285:=Aside0.mk (Kd.S_lower (Kd.S_new' ho0 (Kd.R_lt (uR HO282))) (Qp (uB HB)));replace HO282:=Aside0.mk (Kd.R_below (uR HO282) hb);replace BK279:=Aside0.mk (Qc (uK BK279) hb);replace HB:=Aside0.mk (Qa (uB HB) hb);(try clear hb ho0);obtain ⟨Ao9,co9,eo9⟩:=Kd.S_slice HO285.out;subst eo9))
 repeat (go_quiet (first|(refine bE (N:=1) (cs:= #[.slice A0_0 l0_0.length c0_0]) (t:=26) ?_;intro gb279 hg w4 hbox hb;have BK279:=Aside0.mk (hbox);have GW279:=Aside0.mk ((gV hg (uB HB)));have GE279:=GW279;replace HB:=Aside0.mk (Qa (uB HB) hb);clear hb hbox hg;have hcz5_0:=bC BK279;have hfz5_0:=Qf BK279.out 0)|(go_at_call 280;(with_reducible refine (Q7.calls k _ _ l0_0 t280 _ (uD HR0_0 HB) HC0_0.out A2.out).mono ?_);rintro e w6 ⟨v281,rfl,ho0,hb⟩;have HO282:=Aside0.mk (Kd.R_lower ho0 (Qp (uB HB)));replace BK279:=Aside0.mk (Qc (uK BK279) hb);replace HB:=Aside0.mk (Qa (uB HB) hb);(try clear hb ho0);have hcz7_0:=bC BK279;have hfz7_0:=Qf BK279.out 0)|(go_at_call 335;(with_reducible refine (Qbr.calls k _ _ l0_0 t283 _ (uD HR0_0 HB) HC0_0.out A3.out).mono ?_);rintro e w8 ⟨v284,rfl,ho0,hb⟩;have HO285:=Aside0.mk (Kd.S_lower (Kd.S_new' ho0 (Kd.R_lt (uR HO282))) (Qp (uB HB)));replace HO282:=Aside0.mk (Kd.R_below (uR HO282) hb);replace BK279:=Aside0.mk (Qc (uK BK279) hb);replace HB:=Aside0.mk (Qa (uB HB) hb);(try clear hb ho0);obtain ⟨Ao9,co9,eo9⟩:=Kd.S_slice HO285.out;subst eo9));try go_wp2_with (first|(refine bE (N:=1) (cs:= #[.slice A0_0 l0_0.length c0_0]) (t:=26) ?_;intro gb279 hg w4 hbox hb;have BK279:=Aside0.mk (hbox);have GW279:=Aside0.mk ((gV hg (uB HB)));have GE279:=GW279;replace HB:=Aside0.mk (Qa (uB HB) hb);clear hb hbox hg;have hcz5_0:=bC BK279;have hfz5_0:=Qf BK279.out 0)|(go_at_call 280;(with_reducible refine (Q7.calls k _ _ l0_0 t280 _ (uD HR0_0 HB) HC0_0.out A2.out).mono ?_);rintro e w6 ⟨v281,rfl,ho0,hb⟩;have HO282:=Aside0.mk (Kd.R_lower ho0 (Qp (uB HB)));replace BK279:=Aside0.mk (Qc (uK BK279) hb);replace HB:=Aside0.mk (Qa (uB HB) hb);(try clear hb ho0);have hcz7_0:=bC BK279;have hfz7_0:=Qf BK279.out 0)|(go_at_call 335;(with_reducible refine (Qbr.calls k _ _ l0_0 t283 _ (uD HR0_0 HB) HC0_0.out A3.out).mono ?_);rintro e w8 ⟨v284,rfl,ho0,hb⟩;have HO285:=Aside0.mk (Kd.S_lower (Kd.S_new' ho0 (Kd.R_lt (uR HO282))) (Qp (uB HB)));replace HO282:=Aside0.mk (Kd.R_below (uR HO282) hb);replace BK279:=Aside0.mk (Qc (uK BK279) hb);replace HB:=Aside0.mk (Qa (uB HB) hb);(try clear hb ho0);obtain ⟨Ao9,co9,eo9⟩:=Kd.S_slice HO285.out;subst eo9)))
 go_loopg [11] k (fun kq v11 w'=> ∃ (x11_1:Int),v11= .int .i64 x11_1∧Aside0 (Qca.l0 kq t280 t283 (t283.length:Int) x11_1=some r)∧Aside0 (kq≤k)∧Aside0 (Kd.R (Kd.int .i64) 3 w' w.heap.size (fun _=>True) v281 t280)∧Aside0 (Kd.S (Kd.slice 3 (Kd.int .i64)) 24 w' w.heap.size (fun k_=>some k_≠(v281:Value).ownBlock) (.slice Ao9 t283.length co9) t283)∧Aside0 (w'.heap[gb279]? =some (.cells #[(.slice A0_0 l0_0.length c0_0)] 26 (0,0)))∧Aside0 (Below w.heap.size w w'))
 case atStart=>exact ⟨(0),(by first|rfl|(simp;done)|(simp [*];done)),H',⟨Nat.le_refl _⟩,⟨uR HO282⟩,⟨by (with_reducible repeat (first|apply Kd.S_alloc|apply Kd.S_drewN|apply Kd.S_drew));exact Kd.S_mono HO285.out (fun _ hk=>hk.2)⟩,⟨uK BK279⟩,⟨uB HB⟩⟩
 case round=>
  clear H'
  try clear c2
  try clear p2
  try clear hcz5_0
  try clear hcz7_0
  try clear hfz5_0
  try clear hfz7_0
  obtain ⟨x11_1,rfl,HA,HK1,HO_3,HO_9,BK279,HB⟩:=hrel;cases gk with
  |zero=>exact absurd HA.out (by simp [Qca.l0])
  |succ k1=>
   have H:=HA.out;clear HA;simp only [Qca.l0] at H
   by_cases c10:x11_1<(t283.length:Int)
   ·
    rw [if_pos c10] at H;have c10b0:=decide_eq_true c10;clear c10
    by_cases c11:0≤x11_1
    ·
     rw [if_pos c11] at H;have c11b0:=decide_eq_true c11;clear c11
     by_cases c12:x11_1<(t283.length:Int)
     ·
      rw [if_pos c12] at H;have c12b0:=decide_eq_true c12;clear c12
      by_cases c13:1<((Qb2 t283 x11_1).length:Int)
      ·
       rw [if_pos c13] at H;have c13b0:=decide_eq_true c13;have c13b1:decide (1<(Qb2 t283 x11_1).length)=true:=decide_eq_true (by omega);clear c13
       by_cases c14:0≤(rd (Qb2 t283 x11_1) 1)
       ·
        rw [if_pos c14] at H;have c14b0:=decide_eq_true c14;clear c14
        by_cases c15:(rd (Qb2 t283 x11_1) 1)<(t280.length:Int)
        ·
         rw [if_pos c15] at H;have c15b0:=decide_eq_true c15;clear c15
         by_cases c16:0<((Qb2 t283 x11_1).length:Int)
         ·
          rw [if_pos c16] at H;have c16b0:=decide_eq_true c16;have c16b1:decide (0<(Qb2 t283 x11_1).length)=true:=decide_eq_true (by omega);clear c16
          by_cases c17:0≤(rd (Qb2 t283 x11_1) 0)
          ·
           rw [if_pos c17] at H;have c17b0:=decide_eq_true c17;clear c17
           by_cases c18:(rd (Qb2 t283 x11_1) 0)<(t280.length:Int)
           ·
            rw [if_pos c18] at H;have c18b0:=decide_eq_true c18;clear c18
            by_cases c19:(rd t280 (rd (Qb2 t283 x11_1) 1))=(wrap64 ((rd t280 (rd (Qb2 t283 x11_1) 0))+1))
            ·
             rw [if_pos c19] at H;have c19b0:((rd t280 (rd (Qb2 t283 x11_1) 1))==(wrap64 ((rd t280 (rd (Qb2 t283 x11_1) 0))+1)))=true:=beq_iff_eq.mpr c19;have c19b1:((rd t280 (rd (Qb2 t283 x11_1) 1)) !=(wrap64 ((rd t280 (rd (Qb2 t283 x11_1) 0))+1)))=false:=bne_eq_false_iff_eq.mpr c19;clear c19;have H':=Aside0.mk H;clear H;have p286:0≤(x11_1:Int):=of_decide_eq_true (by first|(with_reducible assumption)|assumption);have q286:x11_1<(t283.length:Int):=of_decide_eq_true (by first|(with_reducible assumption)|assumption);obtain ⟨ad286,A286_0,c286_0,e286,hx286_0,hl286_0,hi286_0⟩:=at_L2 (Kd.S_reads' HO_9.out).2.2 x11_1 p286 q286;cases e286;obtain ⟨ce286,hce286,hMe286,hcc286⟩:=Kd.S_get HO_9.out [] x11_1 p286 (by first|exact q286|exact of_decide_eq_true (by first|(with_reducible assumption)|assumption)|(have e_:=(Kd.S_reads' HO_9.out).1;omega));obtain ⟨ve286_0,rfl,ge286_0⟩:=hMe286;have hv286_0:=hcc286 0 _ rfl;rw [Nat.add_zero,show ((Kd.slice 3 (Kd.int .i64))).sz=1 from rfl,Nat.mul_one] at hv286_0;replace hv286_0:=Option.some.inj (hv286_0.symm.trans hx286_0);rw [hv286_0] at ge286_0;have HL286_0:=Aside0.mk (show Kd.R (Kd.int .i64) 3 _ _ _ _ (Qb2 t283 x11_1) from ge286_0);clear hv286_0 ge286_0;clear hcc286 hce286;have HR286_0:=Aside0.mk hi286_0;have HC286_0:=Aside0.mk hl286_0;clear hi286_0 hl286_0;replace p286:=eq_true p286;replace q286:=eq_true q286;have p287:0≤(1:Int):=(by omega)
             have q287:1<((Qb2 t283 x11_1).length:Int):=of_decide_eq_true (by first|(with_reducible assumption)|assumption);obtain ⟨ad287,e287,hx287_0⟩:=Kd.at_int (by repeat (first|(with_reducible exact HR286_0.out)|(with_reducible refine Kd.C_alloc ?_ _)|(with_reducible refine Kd.C_drewN ?_ _)|(with_reducible refine Kd.C_drew ?_)|exact HR286_0.out)) 1 p287 q287;cases e287
             (try simp only [show (1:Int).toNat=1 from rfl,Nat.reduceMul,Nat.reduceEqDiff,Go.Addr.add,↓reduceIte] at hx287_0)
             have qi287:(1<(Qb2 t283 x11_1).length)=True:=eq_true (by omega)
             (try rw [show ((1:Int)).toNat=1 from rfl] at hx287_0)
             replace p287:=eq_true p287;replace q287:=eq_true q287;obtain ⟨Ao20,co20,eo20⟩:=Kd.R_slice HO_3.out;subst eo20;have p288:0≤((rd (Qb2 t283 x11_1) 1):Int):=of_decide_eq_true (by first|(with_reducible assumption)|assumption);have q288:(rd (Qb2 t283 x11_1) 1)<(t280.length:Int):=of_decide_eq_true (by first|(with_reducible assumption)|assumption);obtain ⟨ad288,e288,hx288_0⟩:=Kd.at_int (Kd.R_reads' HO_3.out).2.2 (rd (Qb2 t283 x11_1) 1) p288 q288;cases e288;replace p288:=eq_true p288;replace q288:=eq_true q288;have p289:0≤(0:Int):=(by omega)
             have q289:0<((Qb2 t283 x11_1).length:Int):=of_decide_eq_true (by first|(with_reducible assumption)|assumption);obtain ⟨ad289,e289,hx289_0⟩:=Kd.at_int (by repeat (first|(with_reducible exact HR286_0.out)|(with_reducible refine Kd.C_alloc ?_ _)|(with_reducible refine Kd.C_drewN ?_ _)|(with_reducible refine Kd.C_drew ?_)|exact HR286_0.out)) 0 p289 q289;obtain rfl:ad287=ad289:=(by injection e289)
             have qi289:(0<(Qb2 t283 x11_1).length)=True:=eq_true (by omega)
             (try rw [show ((0:Int)).toNat=0 from rfl] at hx289_0)
             (try rw [Addr.add_zero'] at hx289_0)
             replace p289:=eq_true p289;replace q289:=eq_true q289;have p290:0≤((rd (Qb2 t283 x11_1) 0):Int):=of_decide_eq_true (by first|(with_reducible assumption)|assumption);have q290:(rd (Qb2 t283 x11_1) 0)<(t280.length:Int):=of_decide_eq_true (by first|(with_reducible assumption)|assumption);obtain ⟨ad290,e290,hx290_0⟩:=Kd.at_int (Kd.R_reads' HO_3.out).2.2 (rd (Qb2 t283 x11_1) 0) p290 q290;obtain rfl:ad288=ad290:=(by injection e290)
             replace p290:=eq_true p290;replace q290:=eq_true q290;go_wp2
             repeat (go_quiet (fail);try go_wp2)
             go_roundg k1
             case measure=>have:=HK1.out;omega
             case rel=>exact ⟨(wrap64 (x11_1+1)),(by first|rfl|(simp;done)|(simp [*];done)),H',⟨by have:=HK1.out;omega⟩,⟨uR HO_3⟩,⟨uS HO_9⟩,⟨uK BK279⟩,⟨uB HB⟩⟩
            ·
             rw [if_neg c19] at H;have c19b0:((rd t280 (rd (Qb2 t283 x11_1) 1))==(wrap64 ((rd t280 (rd (Qb2 t283 x11_1) 0))+1)))=false:=beq_eq_false_iff_ne.mpr c19;have c19b1:((rd t280 (rd (Qb2 t283 x11_1) 1)) !=(wrap64 ((rd t280 (rd (Qb2 t283 x11_1) 0))+1)))=true:=bne_iff_ne.mpr c19;obtain rfl:=Option.some.inj H;have p286:0≤(x11_1:Int):=of_decide_eq_true (by first|(with_reducible assumption)|assumption);have q286:x11_1<(t283.length:Int):=of_decide_eq_true (by first|(with_reducible assumption)|assumption);obtain ⟨ad286,A286_0,c286_0,e286,hx286_0,hl286_0,hi286_0⟩:=at_L2 (Kd.S_reads' HO_9.out).2.2 x11_1 p286 q286;cases e286;obtain ⟨ce286,hce286,hMe286,hcc286⟩:=Kd.S_get HO_9.out [] x11_1 p286 (by first|exact q286|exact of_decide_eq_true (by first|(with_reducible assumption)|assumption)|(have e_:=(Kd.S_reads' HO_9.out).1;omega));obtain ⟨ve286_0,rfl,ge286_0⟩:=hMe286;have hv286_0:=hcc286 0 _ rfl;rw [Nat.add_zero,show ((Kd.slice 3 (Kd.int .i64))).sz=1 from rfl,Nat.mul_one] at hv286_0;replace hv286_0:=Option.some.inj (hv286_0.symm.trans hx286_0);rw [hv286_0] at ge286_0;have HL286_0:=Aside0.mk (show Kd.R (Kd.int .i64) 3 _ _ _ _ (Qb2 t283 x11_1) from ge286_0);clear hv286_0 ge286_0;clear hcc286 hce286;have HR286_0:=Aside0.mk hi286_0;have HC286_0:=Aside0.mk hl286_0;clear hi286_0 hl286_0;replace p286:=eq_true p286;replace q286:=eq_true q286;have p287:0≤(1:Int):=(by omega)
             have q287:1<((Qb2 t283 x11_1).length:Int):=of_decide_eq_true (by first|(with_reducible assumption)|assumption);obtain ⟨ad287,e287,hx287_0⟩:=Kd.at_int (by repeat (first|(with_reducible exact HR286_0.out)|(with_reducible refine Kd.C_alloc ?_ _)|(with_reducible refine Kd.C_drewN ?_ _)|(with_reducible refine Kd.C_drew ?_)|exact HR286_0.out)) 1 p287 q287;cases e287
             (try simp only [show (1:Int).toNat=1 from rfl,Nat.reduceMul,Nat.reduceEqDiff,Go.Addr.add,↓reduceIte] at hx287_0)
             have qi287:(1<(Qb2 t283 x11_1).length)=True:=eq_true (by omega)
             (try rw [show ((1:Int)).toNat=1 from rfl] at hx287_0)
             replace p287:=eq_true p287;replace q287:=eq_true q287;obtain ⟨Ao21,co21,eo21⟩:=Kd.R_slice HO_3.out;subst eo21;have p288:0≤((rd (Qb2 t283 x11_1) 1):Int):=of_decide_eq_true (by first|(with_reducible assumption)|assumption);have q288:(rd (Qb2 t283 x11_1) 1)<(t280.length:Int):=of_decide_eq_true (by first|(with_reducible assumption)|assumption);obtain ⟨ad288,e288,hx288_0⟩:=Kd.at_int (Kd.R_reads' HO_3.out).2.2 (rd (Qb2 t283 x11_1) 1) p288 q288;cases e288;replace p288:=eq_true p288;replace q288:=eq_true q288;have p289:0≤(0:Int):=(by omega)
             have q289:0<((Qb2 t283 x11_1).length:Int):=of_decide_eq_true (by first|(with_reducible assumption)|assumption);obtain ⟨ad289,e289,hx289_0⟩:=Kd.at_int (by repeat (first|(with_reducible exact HR286_0.out)|(with_reducible refine Kd.C_alloc ?_ _)|(with_reducible refine Kd.C_drewN ?_ _)|(with_reducible refine Kd.C_drew ?_)|exact HR286_0.out)) 0 p289 q289;obtain rfl:ad287=ad289:=(by injection e289)
             have qi289:(0<(Qb2 t283 x11_1).length)=True:=eq_true (by omega)
             (try rw [show ((0:Int)).toNat=0 from rfl] at hx289_0)
             (try rw [Addr.add_zero'] at hx289_0)
             replace p289:=eq_true p289;replace q289:=eq_true q289;have p290:0≤((rd (Qb2 t283 x11_1) 0):Int):=of_decide_eq_true (by first|(with_reducible assumption)|assumption);have q290:(rd (Qb2 t283 x11_1) 0)<(t280.length:Int):=of_decide_eq_true (by first|(with_reducible assumption)|assumption);obtain ⟨ad290,e290,hx290_0⟩:=Kd.at_int (Kd.R_reads' HO_3.out).2.2 (rd (Qb2 t283 x11_1) 0) p290 q290;obtain rfl:ad288=ad290:=(by injection e290)
             replace p290:=eq_true p290;replace q290:=eq_true q290;go_wp2
             repeat (go_quiet (fail);try go_wp2)
             go_ret
             exact ⟨by first|rfl|(simp [Qd,Qe] <;>rfl)|(simp [*,Qd,Qe] <;>rfl),uB HB⟩
           ·
            rw [if_neg c18] at H;exact absurd H (by simp)
          ·
           rw [if_neg c17] at H;exact absurd H (by simp)
         ·
          rw [if_neg c16] at H;exact absurd H (by simp)
        ·
         rw [if_neg c15] at H;exact absurd H (by simp)
       ·
        rw [if_neg c14] at H;exact absurd H (by simp)
      ·
       rw [if_neg c13] at H;exact absurd H (by simp)
     ·
      rw [if_neg c12] at H;exact absurd H (by simp)
    ·
     rw [if_neg c11] at H;exact absurd H (by simp)
   ·
    rw [if_neg c10] at H;have c10b0:=decide_eq_false c10;clear c10;obtain rfl:=Option.some.inj H;go_wp2
    repeat (go_quiet (fail);try go_wp2)
    go_ret
    exact ⟨by first|rfl|(simp [Qd,Qe] <;>rfl)|(simp [*,Qd,Qe] <;>rfl),uB HB⟩
end Go.Proofs.YtkgngggppcmpfaaGreat.L
end
