/- Laws about the given program: the law FnRowvacuation answers true for every input that its row lets in; no condition is added to the given statement. Contracts of the Go functions that it reaches, and the plain proof over lists. -/
import Derived.Test.YtkgngggppcmpfaaGreatWFnRowvacuation0
import Derived.Test.YtkgngggppcmpfaaGreatKFnRowvacuation0
import Derived.Test.YtkgngggppcmpfaaGreatKFnRowvacuation1
import Derived.Test.YtkgngggppcmpfaaGreatKFnRowvacuation2
import Derived.Test.YtkgngggppcmpfaaGreatKFnRowvacuation3
section
namespace Go.Proofs.YtkgngggppcmpfaaGreat.L
open Go.RowKit Go.Proofs.YtkgngggppcmpfaaGreatW.PrintWords Go.Proofs.YtkgngggppcmpfaaGreatW.PrintLast Go.Proofs.YtkgngggppcmpfaaGreatW.PrintMore Go.Proofs.YtkgngggppcmpfaaGreat.X
attribute [local go_sem] Qt Qv Q2 Q3 Qm Qn Qu Qw
set_option linter.unusedVariables false
set_option linter.unusedSimpArgs false
mutual
def Qs.l0 : Nat → List Int → List Int → Int → Int → Option (List Int)
 |0,_,_,_,_=>none
 |k+1,x3,x12,x13,x14=>if x14<x13 then (if 0≤x14 then (if x14<(x12.length:Int) then ((Qbn.f k (rd x12 x14)).bind fun t398=>(Qs.l1 k x3 x14 x12 x13 x14 t398 (t398.length:Int) 0)) else (none)) else (none)) else (some x3)
def Qs.l1 : Nat → List Int → Int → List Int → Int → Int → List Int → Int → Int → Option (List Int)
 |0,_,_,_,_,_,_,_,_=>none
 |k+1,x3,x4,x12,x13,x14,x20,x21,x22=>if x22<x21 then (if 0≤x22 then (if x22<(x20.length:Int) then (if 0≤x4 then (if x4<(x3.length:Int) then (if 0≤(rd x20 x22) then (if (rd x20 x22)<(x3.length:Int) then (Qs.l1 k (x3.set (x4:Int).toNat (mx (rd x3 x4) (wrap64 ((rd x3 (rd x20 x22))+1)))) x4 x12 x13 x14 x20 x21 (wrap64 (x22+1))) else (none)) else (none)) else (none)) else (none)) else (none)) else (none)) else (Qs.l0 k x3 x12 x13 (wrap64 (x14+1)))
end
def Qs.f (k : Nat) (l0_0 : List Int) : Option (List Int) := (Qcx.f l0_0).bind fun t393 => (if 0 ≤ t393 then (if (t393 : Int).toNat ≤ 35184372088832 then (Qs.l0 k (List.replicate (t393 : Int).toNat 0) l0_0 (l0_0.length : Int) 0) else (none)) else (none))
theorem Qs.mono_l : ∀ k, (∀ y0 y1 y2 y3, LeO (Qs.l0 k y0 y1 y2 y3) (Qs.l0 (k + 1) y0 y1 y2 y3)) ∧ (∀ y0 y1 y2 y3 y4 y5 y6 y7, LeO (Qs.l1 k y0 y1 y2 y3 y4 y5 y6 y7) (Qs.l1 (k + 1) y0 y1 y2 y3 y4 y5 y6 y7))
 |0=>⟨fun _ _ _ _ r h=>by simp [Qs.l0] at h,fun _ _ _ _ _ _ _ _ r h=>by simp [Qs.l1] at h⟩
 |k+1=>by
  obtain ⟨ih0,ih1⟩:=Qs.mono_l k;refine ⟨?_,?_⟩
  all_goals
   intros
   first|unfold Qs.l0|unfold Qs.l1
   repeat' (with_reducible first|apply ih0|apply ih1|apply Qbn.mono|exact LeO.refl _|exact LeO.none _|refine LeO.ite ?_ ?_|refine LeO.bind ?_ (fun _=> ?_))
theorem Qs.mono : ∀ a0 k, LeO (Qs.f k a0) (Qs.f (k + 1) a0) := by
 intro a0 k;obtain ⟨ih0,ih1⟩:=Qs.mono_l k;unfold Qs.f
 repeat' (with_reducible first|apply ih0|apply ih1|apply Qbn.mono|exact LeO.refl _|exact LeO.none _|refine LeO.ite ?_ ?_|refine LeO.bind ?_ (fun _=> ?_))
def Qs.T8 : Bool × List (List Nat × List Nat) := (true, [([], []), ([], []), ([], []), ([], []), ([2, 3], [2, 3]), ([4], [4]), ([], []), ([], []), ([6, 7], [6, 7]), ([8], [8]), ([9], [9]), ([5, 10], [5, 10]), ([0, 1, 0, 1, 2, 3, 4, 5, 6, 7, 8, 9, 10, 11], [0, 1]), ([12, 11, 0, 1, 2, 3, 4, 5, 6, 7, 8, 9, 10, 11], [11, 12])])
def Qs.B8 : List Nat := [0, 0, 0, 0, 12, 28, 0, 0, 192, 448, 960, 2044, 4095, 8191]
theorem Qs.tab8 : rtab .any (Qf2 Tryz.f236 8) = Qs.T8 := by kernel_rfl
theorem Qs.bits8 : Qd9 Qs.T8.2 Qs.B8 = true := by kernel_rfl
set_option maxHeartbeats 8000000 in
set_option maxRecDepth 100000 in
theorem Qs.calls (k : Nat) (A0_0 : Option Addr) (c0_0 : Nat) (l0_0 : List Int) (r : List Int) (w : World) (hr0_0 : Kd.C (Kd.int .i64) w A0_0 l0_0.length l0_0) (hc0_0 : l0_0.length ≤ c0_0) (h : Qs.f k l0_0 = some r) :
 Calls Tryz.prog 236 #[.agg #[.slice A0_0 l0_0.length c0_0]] w fun e w'=> ∃ v0_:Value,e= .returned (v0_)∧Kd.R (Kd.int .i64) 3 w' w.heap.size (fun _=>True) v0_ r∧Below w.heap.size w w':=by
 have hu26:=Tryz.underlying26;have HR0_0:=Aside0.mk hr0_0;have HC0_0:=Aside0.mk hc0_0;clear hr0_0 hc0_0;have HB:=Aside0.mk (Below.refl w.heap.size w);have H:((Qcx.f l0_0).bind fun t393=>(if 0≤t393 then (if (t393:Int).toNat≤35184372088832 then (Qs.l0 k (List.replicate (t393:Int).toNat 0) l0_0 (l0_0.length:Int) 0) else (none)) else (none)))=some r:=h;clear h;obtain ⟨t393,A2,H⟩:=bs H;(try dsimp only at H)
 by_cases c3:0≤t393
 ·
  rw [if_pos c3] at H;have c3b0:=eq_true c3;have c3b1:=decide_eq_true c3;clear c3
  by_cases c4:(t393:Int).toNat≤35184372088832
  ·
   rw [if_pos c4] at H;have c4b0:=eq_true c4;have c4b1:=decide_eq_true c4;clear c4;obtain ⟨y394,hy394⟩: ∃ y_:List Int,y_=(List.replicate (t393:Int).toNat 0):=⟨_,rfl⟩
   replace H:(Qs.l0 k y394 l0_0 (l0_0.length:Int) 0)=some r:=by first|(rw [hy394];with_reducible exact H)|(have H2_:=(Option.bind_some _ _).symm.trans H;rw [hy394];with_reducible exact H2_)|(have H2_:=(Option.bind_some _ _).symm.trans H;with_reducible exact H2_)|with_reducible exact H|(rw [hy394];exact H)|exact H
   have Ny394:=Aside0.mk hy394;clear hy394;have H':=Aside0.mk H;clear H;go_enter Tryz.func236,Tryz.ntmps236;go_wp2_with (first|(refine bE (N:=1) (cs:= #[.slice A0_0 l0_0.length c0_0]) (t:=26) ?_;intro gb392 hg w5 hbox hb;have BK392:=Aside0.mk (hbox);have GW392:=Aside0.mk ((gV hg (uB HB)));have GE392:=GW392;replace HB:=Aside0.mk (Qa (uB HB) hb);clear hb hbox hg;have hcz6_0:=bC BK392;have hfz6_0:=Qf BK392.out 0)|(refine gA (some 9) Tryz.func244 #[.agg #[.slice A0_0 l0_0.length c0_0]] ?_;(with_reducible refine (Qcx.calls _ _ l0_0 t393 _ (uD HR0_0 HB) HC0_0.out A2.out).mono ?_);rintro e w7 ⟨rfl,hb⟩;refine ⟨_,rfl,?_⟩;replace BK392:=Aside0.mk (Qc (uK BK392) hb);replace HB:=Aside0.mk (Qa (uB HB) hb);(try clear hb))|((with_reducible refine Qc0 (N:=10) rfl ?_);refine Kd.R_make (Kd.int .i64) _ 3 rfl (N:=10) rfl 24 _ _ rfl t393 rfl rfl Tryz.underlying24 (.int .i64 0) 8 Qfm rfl (by decide) (by omega) 0 (ok:=fun _=>True) (okp:=fun _=>True) rfl (fun _ hk=>hk) trivial (of_decide_eq_true (by first|(with_reducible assumption)|assumption)) (Nat.le_trans (Nat.mul_le_mul_right _ (of_decide_eq_true (by first|(with_reducible assumption)|assumption):t393.toNat≤35184372088832)) (by omega)) (Below.refl _ _) (Nat.le_refl _) ?_;intro v395 w8 ho9 hb hg_ hnew_;clear hg_ hnew_;(first|rw [←Ny394.out] at ho9|(simp only [Int.reduceToNat] at ho9;rw [←Ny394.out] at ho9));have HO396:=Aside0.mk (Kd.R_lower ho9 (Qp (uB HB)));replace BK392:=Aside0.mk (Qc (uK BK392) hb);replace HB:=Aside0.mk (Qa (uB HB) hb);clear hb ho9;have hcz10_0:=bC BK392;have hfz10_0:=Qf BK392.out 0))
   go_loopg [14] k (fun kq v14 w'=> ∃ (x3_1:List Int) (x14_1:Int),v14= .int .i64 x14_1∧Aside0 (Qs.l0 kq x3_1 l0_0 (l0_0.length:Int) x14_1=some r)∧Aside0 (kq≤k)∧Aside0 (Kd.R (Kd.int .i64) 3 w' w.heap.size (fun _=>True) v395 x3_1)∧Aside0 (w'.heap[gb392]? =some (.cells #[(.slice A0_0 l0_0.length c0_0)] 26 (0,0)))∧Aside0 (Below w.heap.size w w'))
   case atStart=>exact ⟨(y394),(0),(by first|rfl|(simp;done)|(simp [*];done)),H',⟨Nat.le_refl _⟩,⟨uR HO396⟩,⟨uK BK392⟩,⟨uB HB⟩⟩
   case round=>
    clear H'
    try clear c2
    try clear p2
    try clear c3
    try clear c3b0
    try clear c3b1
    try clear c4
    try clear c4b0
    try clear c4b1
    try clear hcz10_0
    try clear hcz6_0
    try clear hfz10_0
    try clear hfz6_0
    obtain ⟨x3_1,x14_1,rfl,HA,HK1,HO_3,BK392,HB⟩:=hrel;cases gk with
    |zero=>exact absurd HA.out (by simp [Qs.l0])
    |succ k1=>
     have H:=HA.out;clear HA;simp only [Qs.l0] at H
     by_cases c11:x14_1<(l0_0.length:Int)
     ·
      rw [if_pos c11] at H;have c11b0:=decide_eq_true c11;clear c11
      by_cases c12:0≤x14_1
      ·
       rw [if_pos c12] at H;have c12b0:=decide_eq_true c12;clear c12
       by_cases c13:x14_1<(l0_0.length:Int)
       ·
        rw [if_pos c13] at H;have c13b0:=decide_eq_true c13;clear c13;obtain ⟨t398,A14,H⟩:=bs H;(try dsimp only at H)
        have H':=Aside0.mk H;clear H;have p397:0≤(x14_1:Int):=of_decide_eq_true (by first|(with_reducible assumption)|assumption);have q397:x14_1<(l0_0.length:Int):=of_decide_eq_true (by first|(with_reducible assumption)|assumption);obtain ⟨ad397,e397,hx397_0⟩:=Kd.at_int HR0_0.out x14_1 p397 q397;cases e397;replace hx397_0:=(HB.out.cell (World.block_lt_of_cell? w _ hx397_0)).trans hx397_0;replace p397:=eq_true p397;replace q397:=eq_true q397;go_wp2_with (first|(refine gA (some 20) Tryz.func277 #[.int .i64 (rd l0_0 x14_1)] ?_;(with_reducible refine (Qbn.calls k1 (rd l0_0 x14_1) t398 _ A14.out).mono ?_);rintro e w15 ⟨v399,rfl,ho0,hb⟩;refine ⟨_,rfl,?_⟩;have HO400:=Aside0.mk (Kd.R_lower (Kd.R_new' ho0 (Kd.R_lt (uR HO_3))) (Qp (uB HB)));replace HO_3:=Aside0.mk (Kd.R_elder' (uR HO_3) (Kd.R_base ho0) hb);replace BK392:=Aside0.mk (Qc (uK BK392) hb);replace HB:=Aside0.mk (Qa (uB HB) hb);(try clear hb ho0);obtain ⟨Ao16,co16,eo16⟩:=Kd.R_slice HO400.out;subst eo16))
        go_loopg [22] k1 (fun kq v22 w'=> ∃ (x3_2:List Int) (x22_2:Int),v22= .int .i64 x22_2∧Aside0 (Qs.l1 kq x3_2 x14_1 l0_0 (l0_0.length:Int) x14_1 t398 (t398.length:Int) x22_2=some r)∧Aside0 (kq≤k1)∧Aside0 (Kd.R (Kd.int .i64) 3 w' w.heap.size (fun k_=>some k_≠((.slice Ao16 t398.length co16):Value).ownBlock) v395 x3_2)∧Aside0 (Kd.R (Kd.int .i64) 3 w' w.heap.size (fun k_=>some k_≠(v395:Value).ownBlock) (.slice Ao16 t398.length co16) t398)∧Aside0 (w'.heap[gb392]? =some (.cells #[(.slice (some ad397) l0_0.length c0_0)] 26 (0,0)))∧Aside0 (Below w.heap.size w w'))
        case atStart=>exact ⟨(x3_1),(0),(by first|rfl|(simp;done)|(simp [*];done)),H',⟨Nat.le_refl _⟩,⟨by (with_reducible repeat (first|apply Kd.R_alloc|apply Kd.R_drewN|apply Kd.R_drew));exact Kd.R_mono HO_3.out (fun _ hk=>hk.2)⟩,⟨by (with_reducible repeat (first|apply Kd.R_alloc|apply Kd.R_drewN|apply Kd.R_drew));exact Kd.R_mono HO400.out (fun _ hk=>hk.2)⟩,⟨uK BK392⟩,⟨uB HB⟩⟩
        case round=>
         clear H'
         try clear c1
         try clear c2
         try clear p2
         try clear c3
         try clear c3b0
         try clear c3b1
         try clear p3
         try clear q3
         try clear hx3
         try clear c4
         try clear c4b0
         try clear c4b1
         try clear c11
         try clear c11b0
         try clear c12
         try clear c12b0
         try clear c13
         try clear c13b0
         try clear hcz10_0
         try clear hcz6_0
         try clear hfz10_0
         try clear hfz6_0
         try clear hx397_0
         try clear p2
         try clear p397
         try clear q397
         obtain ⟨x3_2,x22_2,rfl,HA,HK2,HO_3,HO_20,BK392,HB⟩:=hrel;cases gk with
         |zero=>exact absurd HA.out (by simp [Qs.l1])
         |succ k2=>
          have H:=HA.out;clear HA;simp only [Qs.l1] at H
          by_cases c17:x22_2<(t398.length:Int)
          ·
           rw [if_pos c17] at H;have c17b0:=decide_eq_true c17;clear c17
           by_cases c18:0≤x22_2
           ·
            rw [if_pos c18] at H;have c18b0:=decide_eq_true c18;clear c18
            by_cases c19:x22_2<(t398.length:Int)
            ·
             rw [if_pos c19] at H;have c19b0:=decide_eq_true c19;clear c19
             by_cases c20:0≤x14_1
             ·
              rw [if_pos c20] at H;have c20b0:=decide_eq_true c20;clear c20
              by_cases c21:x14_1<(x3_2.length:Int)
              ·
               rw [if_pos c21] at H;have c21b0:=decide_eq_true c21;clear c21
               by_cases c22:0≤(rd t398 x22_2)
               ·
                rw [if_pos c22] at H;have c22b0:=decide_eq_true c22;clear c22
                by_cases c23:(rd t398 x22_2)<(x3_2.length:Int)
                ·
                 rw [if_pos c23] at H;have c23b0:=decide_eq_true c23;clear c23;obtain ⟨ji24,hji24⟩: ∃ j_:Int,(mx (rd x3_2 x14_1) (wrap64 ((rd x3_2 (rd t398 x22_2))+1)))=j_:=⟨_,rfl⟩
                 replace H:(Qs.l1 k2 (x3_2.set (x14_1:Int).toNat (ji24)) x14_1 l0_0 (l0_0.length:Int) x14_1 t398 (t398.length:Int) (wrap64 (x22_2+1)))=some r:=by first|(rw [hji24] at H;exact H)|(simp only [hji24] at H ⊢;exact H)
                 have hji24_:(if (rd x3_2 x14_1)<(wrap64 ((rd x3_2 (rd t398 x22_2))+1)) then (wrap64 ((rd x3_2 (rd t398 x22_2))+1)) else (rd x3_2 x14_1))=ji24:=hji24;obtain ⟨y404,hy404⟩: ∃ y_:List Int,y_=(x3_2.set (x14_1:Int).toNat (ji24)):=⟨_,rfl⟩
                 replace H:(Qs.l1 k2 y404 x14_1 l0_0 (l0_0.length:Int) x14_1 t398 (t398.length:Int) (wrap64 (x22_2+1)))=some r:=by first|(rw [hy404];with_reducible exact H)|(have H2_:=(Option.bind_some _ _).symm.trans H;rw [hy404];with_reducible exact H2_)|(have H2_:=(Option.bind_some _ _).symm.trans H;with_reducible exact H2_)|with_reducible exact H|(rw [hy404];exact H)|exact H
                 have Ny404:=Aside0.mk hy404;clear hy404;have H':=Aside0.mk H;clear H;have p401:0≤(x22_2:Int):=of_decide_eq_true (by first|(with_reducible assumption)|assumption);have q401:x22_2<(t398.length:Int):=of_decide_eq_true (by first|(with_reducible assumption)|assumption);obtain ⟨ad401,e401,hx401_0⟩:=Kd.at_int (Kd.R_reads' HO_20.out).2.2 x22_2 p401 q401;cases e401;replace p401:=eq_true p401;replace q401:=eq_true q401
                 try go_wp2
                 replace HO_3:=Aside0.mk (Kd.R_drew HO_3.out);replace HO_20:=Aside0.mk (Kd.R_drew HO_20.out);replace BK392:=Aside0.mk (Qj BK392.out);replace HB:=Aside0.mk (Qy HB.out);obtain ⟨Ao27,co27,eo27⟩:=Kd.R_slice HO_3.out
                 (first|subst eo27|(injection eo27 with f1_ f2_ f3_;have f4_:=f1_.symm;have f5_:=f3_.symm;clear f1_ f2_ f3_;subst f4_;subst f5_))
                 have p402:0≤(x14_1:Int):=of_decide_eq_true (by first|(with_reducible assumption)|assumption);have q402:x14_1<(x3_2.length:Int):=of_decide_eq_true (by first|(with_reducible assumption)|assumption);obtain ⟨ad402,e402,hx402_0⟩:=Kd.at_int (Kd.R_reads' HO_3.out).2.2 x14_1 p402 q402;cases e402;replace p402:=eq_true p402;replace q402:=eq_true q402;have p403:0≤((rd t398 x22_2):Int):=of_decide_eq_true (by first|(with_reducible assumption)|assumption);have q403:(rd t398 x22_2)<(x3_2.length:Int):=of_decide_eq_true (by first|(with_reducible assumption)|assumption);obtain ⟨ad403,e403,hx403_0⟩:=Kd.at_int (Kd.R_reads' HO_3.out).2.2 (rd t398 x22_2) p403 q403;obtain rfl:ad402=ad403:=(by injection e403)
                 replace p403:=eq_true p403;replace q403:=eq_true q403;have p25:0≤(x14_1:Int):=of_decide_eq_true (by first|(with_reducible assumption)|assumption);have q25:(x14_1:Int)<((x3_2.length:Int):Int):=of_decide_eq_true (by first|(with_reducible assumption)|assumption);obtain ⟨go25,co25,eo25,gb25,gl25,cl25,HG25⟩:=Kd.R_form HO_3.out (by omega)
                 (first|cases eo25|(injection eo25 with ea_ en_ ec_;(first|subst ea_|(injection ea_ with ea_;subst ea_));subst ec_;clear en_))
                 have GB25:=Aside0.mk gb25;have GG25:=Aside0.mk HG25;clear gb25 gl25 HG25
                 (first|simp only [Qe2] at hx402_0|skip)
                 (first|simp only [Qe2] at hx403_0|skip)
                 obtain ⟨hx25_0,hf25_0⟩:=Kd.R_celln 0 HO_3.out (x14_1:Int) p25 q25;replace p25:=eq_true p25;replace q25:=eq_true q25;have HP28:=Kd.R_putn HO_3.out (x14_1:Int) ji24;rw [←Ny404.out] at HP28;have HQ28:=Aside0.mk HP28;clear HP28;refine sU (n:=14) (S:=fun w'=>w'.cell? ⟨go25,(x14_1).toNat,none⟩=some (.int .i64 (rd x3_2 x14_1))∧w'.cell? ⟨go25,((rd t398 x22_2)).toNat,none⟩=some (.int .i64 (rd x3_2 (rd t398 x22_2)))) (ds:= [13]) ⟨hx402_0,hx403_0⟩ (fun hHeld=> ?_);refine Qeg Qs.tab8 Qs.bits8 (fun HT_ HW_=> ?_);generalize wr.drew=w26 at HO_3 HO_20 BK392 HB GG25 HQ28 hf25_0 hx25_0 hx402_0 hx403_0 hHeld ⊢;refine pU 0 26 ?_;refine pU 1 27 ?_;refine pU 2 28 ?_;refine pU 3 29 ?_;refine pU 4 30 ?_;refine pU 6 32 ?_;refine pU 7 33 ?_;refine pU 8 34 ?_;refine tW 5 31 hHeld ?_;refine tW 9 35 hHeld ?_;refine pU 10 36 ?_;refine pU 11 37 ?_;refine pU 12 38 ?_;refine lU 13 none fun K hK=> ?_
                 refine sK ?_;refine hK.out _ _ ?_;clear hK K;refine dU ?_
                 try go_wp2
                 go_roundg k2
                 case measure=>have:=HK1.out;have:=HK2.out;omega
                 case rel=>exact ⟨(y404),(wrap64 (x22_2+1)),(by first|rfl|(simp;done)|(simp [*];done)),H',⟨by have:=HK1.out;have:=HK2.out;omega⟩,⟨uR HQ28⟩,⟨by (with_reducible repeat (first|apply Kd.R_alloc|apply Kd.R_drewN|apply Kd.R_drew));exact Kd.R_mono (Kd.R_far (p:=⟨go25,(x14_1:Int).toNat,none⟩) (Kd.R_mono HO_20.out (fun k_ hk=>(⟨hk,fun e_=>hk (by rw [e_];rfl)⟩:_∧k_≠go25))) (fun _ hk=>hk.2) (.int .i64 ji24)) (fun _ hk=>hk.1)⟩,⟨by (with_reducible repeat (first|refine Qk ?_ _|refine Qj ?_|refine Qi ?_ _));refine Qd8 ?_ (by have h_:=Kd.R_ne HO_3.out BK392.out (by decide);intro e_;exact h_ (by rw [e_];rfl)) _;(with_reducible repeat (first|refine Qk ?_ _|refine Qj ?_|refine Qi ?_ _));exact BK392.out⟩,⟨by repeat (first|(with_reducible first|exact HB.out|apply Qo|apply Qq|apply Qy|refine Q4 ?_ GB25.out|refine Q4 ?_ GE392.out)|exact HB.out)⟩⟩
                ·
                 rw [if_neg c23] at H;exact absurd H (by simp)
               ·
                rw [if_neg c22] at H;exact absurd H (by simp)
              ·
               rw [if_neg c21] at H;exact absurd H (by simp)
             ·
              rw [if_neg c20] at H;exact absurd H (by simp)
            ·
             rw [if_neg c19] at H;exact absurd H (by simp)
           ·
            rw [if_neg c18] at H;exact absurd H (by simp)
          ·
           rw [if_neg c17] at H;have c17b0:=decide_eq_false c17;clear c17;have H':=Aside0.mk H;clear H;go_wp2;go_roundg k2
           case measure=>have:=HK1.out;have:=HK2.out;omega
           case rel=>exact ⟨(x3_2),(wrap64 (x14_1+1)),(by first|rfl|(simp;done)|(simp [*];done)),H',⟨by have:=HK1.out;have:=HK2.out;omega⟩,⟨by (with_reducible repeat (first|apply Kd.R_alloc|apply Kd.R_drewN|apply Kd.R_drew));exact Kd.R_mono HO_3.out (fun _ hk=>trivial)⟩,⟨uK BK392⟩,⟨uB HB⟩⟩
       ·
        rw [if_neg c13] at H;exact absurd H (by simp)
      ·
       rw [if_neg c12] at H;exact absurd H (by simp)
     ·
      rw [if_neg c11] at H;have c11b0:=decide_eq_false c11;clear c11;obtain rfl:=Option.some.inj H;go_wp2
      go_ret
      exact ⟨_,by first|rfl|(simp [Qd,Qe] <;>rfl)|(simp [*,Qd,Qe] <;>rfl),uR HO_3,uB HB⟩
  ·
   rw [if_neg c4] at H;exact absurd H (by simp)
 ·
  rw [if_neg c3] at H;exact absurd H (by simp)
end Go.Proofs.YtkgngggppcmpfaaGreat.L
end
section
namespace Go.Proofs.YtkgngggppcmpfaaGreat.L
open Go.RowKit Go.Proofs.YtkgngggppcmpfaaGreatW.PrintWords Go.Proofs.YtkgngggppcmpfaaGreatW.PrintLast Go.Proofs.YtkgngggppcmpfaaGreatW.PrintMore
attribute [local go_sem] Qt Qv Q2 Q3 Qm Qn Qu Qw
set_option linter.unusedVariables false
set_option linter.unusedSimpArgs false
open Go.Proofs.YtkgngggppcmpfaaGreat.X in
set_option maxHeartbeats 800000 in
set_option maxRecDepth 100000 in
theorem Qkd.calls (A0 : Option Addr) (c0 : Nat) (l0 : List (List Int)) (g : Nat) (lb : Array Value) (p : List Int → Bool) (w : World) (eg : ∀ args w, (callFunc g args).run Tryz.prog w = .ok (.enter g args) w)
 (hr0:Kd.C (Kd.slice 3 (Kd.int .i64)) w A0 l0.length l0) (hl:l0.length≤9223372036854775806) (hp: ∀ x,x ∈ l0→FvL Tryz.prog g lb x (.bool (p x)) w):
 Calls Tryz.prog 342 #[.slice A0 l0.length c0, .func (.func g) #[] lb] w fun e w'=>e= .returned (.int .i64 (Qlo p l0))∧Below w.heap.size w w':=by
 have HR0:=Aside0.mk hr0;have HP:=Aside0.mk hp;clear hr0 hp;go_enter Tryz.func342,Tryz.ntmps342;go_wp2
 go_loopw [8] (fun v8 wr=> ∃ k:Nat,k≤l0.length∧v8= .int .i64 k∧Aside0 (Qlo p l0=Qfs p (l0.drop k) k)∧Aside0 (Below w.heap.size w wr)) (fun v8 _=>l0.length - (intOf v8).toNat)
 case atStart=>exact ⟨0,Nat.zero_le _,rfl,⟨rfl⟩,⟨Below.refl _ _⟩⟩
 case round=>
  obtain ⟨k,hk,rfl,HI,HB⟩:=hrel
  by_cases hlt:k<l0.length
  ·
   have hdrop:l0.drop k=l0[k] ::l0.drop (k+1):=(List.drop_eq_getElem_cons hlt)
   have hrd:l0.getD k [] =l0[k] :=by simp [List.getD_eq_getElem?_getD,hlt]
   have hmem:l0[k] ∈ l0:=List.getElem_mem hlt;have hfv:=HP.out _ hmem;have hI3:=Aside0.mk (show Qlo p l0=if p l0[k] then (k:Int) else Qfs p (l0.drop (k+1)) (k+1) by rw [HI.out,hdrop,Qfs]);have HF:=Aside0.mk hfv;obtain ⟨ad,A1,c1,e1,hx,hl1,hr1⟩:=row_at (Kd.C_below HR0.out HB.out) k hlt;rw [hrd] at hx hl1 hr1;obtain ⟨x,ex⟩: ∃ x,x=l0[k] :=⟨_,rfl⟩
   rw [←ex] at hx hl1 hr1 hI3 HF;have HL1:=Aside0.mk hl1;have HR1:=Aside0.mk hr1;clear hfv hdrop hrd HI hmem hl1 hr1 ex;cases e1
   by_cases hp:p x=true
   all_goals
    have hP:=Aside0.mk hp;go_wp2_with (go_at_fn g;(with_reducible refine (FvL.calls HF.out HB.out HR1.out HL1.out).mono ?_);rintro e w2 ⟨rfl,hb⟩)
    first|go_ret|go_roundw
   ·
    exact ⟨by rw [hI3.out,if_pos hP.out];rfl,Qdj HB.out hb⟩
   case rel=>exact ⟨k+1,by omega,by go_num,⟨by rw [hI3.out,if_neg hP.out]⟩,⟨Qdj HB.out hb⟩⟩
   case measure=>simp [intOf];omega
  ·
   go_wp2
   go_ret
   exact ⟨by rw [HI.out,List.drop_of_length_le (by omega)];rfl,HB.out⟩
open Go.Proofs.YtkgngggppcmpfaaGreat.X in
set_option maxHeartbeats 400000 in
set_option maxRecDepth 100000 in
theorem Qi8.calls (A0 : Option Addr) (c0 : Nat) (l0 : List (List Int)) (g : Nat) (lb : Array Value) (p : List Int → Bool) (w : World) (eg : ∀ args w, (callFunc g args).run Tryz.prog w = .ok (.enter g args) w)
 (hr0:Kd.C (Kd.slice 3 (Kd.int .i64)) w A0 l0.length l0) (hl:l0.length≤9223372036854775806) (hp: ∀ x,x ∈ l0→FvL Tryz.prog g lb x (.bool (p x)) w):
 Calls Tryz.prog 309 #[.slice A0 l0.length c0, .func (.func g) #[] lb] w fun e w'=>e= .returned (.bool (l0.any p))∧Below w.heap.size w w':=by
 have EG:=Aside0.mk eg;have HR0:=Aside0.mk hr0;have HP:=Aside0.mk hp;clear hr0 hp eg;go_enter Tryz.func309,Tryz.ntmps309;go_wp2_with (go_at_call 342;(with_reducible refine (Qkd.calls _ _ l0 g lb p _ EG.out HR0.out hl HP.out).mono ?_);rintro e w2 ⟨rfl,hb⟩)
 go_ret
 refine ⟨?_,hb⟩;have:=Qjl p l0 0;unfold Qlo
 by_cases h:l0.any p=true
 ·
  rw [h] at this ⊢;simp [this.mpr rfl]
 ·
  have h2: ¬ (0≤Qfs p l0 0):=fun z=>h (this.mp z)
  simp [Bool.eq_false_iff.mpr h,h2]
end Go.Proofs.YtkgngggppcmpfaaGreat.L
end
section
namespace Go.Proofs.YtkgngggppcmpfaaGreat.L
open Go.RowKit Go.Proofs.YtkgngggppcmpfaaGreatW.PrintWords Go.Proofs.YtkgngggppcmpfaaGreatW.PrintLast Go.Proofs.YtkgngggppcmpfaaGreatW.PrintMore Go.Proofs.YtkgngggppcmpfaaGreat.X
attribute [local go_sem] Qt Qv Q2 Q3 Qm Qn Qu Qw
set_option linter.unusedVariables false
set_option linter.unusedSimpArgs false
def Qbw.l0 : Nat → Int → List Int → Int → Int → List Int → Option (Int)
 |0,_,_,_,_,_=>none
 |k+1,x5,x18,x19,x20,x406000=>if x20<x19 then (if 0≤x20 then (if x20<(x18.length:Int) then (if 0≤(rd x18 x20) then (if (rd x18 x20)<(x406000.length:Int) then (Qbw.l0 k (Go.bits .andNot .i64 x5 (rd x406000 (rd x18 x20))) x18 x19 (wrap64 (x20+1)) x406000) else (none)) else (none)) else (none)) else (none)) else (some x5)
def Qbw.f (k : Nat) (l0_0 : List Int) (a1 : Int) : Option (Int) := if 0 ≤ a1 then (if a1 < (l0_0.length : Int) then ((Qbn.f k (rd l0_0 a1)).bind fun t408 => (Qbw.l0 k (rd l0_0 a1) t408 (t408.length : Int) 0 l0_0)) else (none)) else (none)
theorem Qbw.mono_l : ∀ k, (∀ y0 y1 y2 y3 y4, LeO (Qbw.l0 k y0 y1 y2 y3 y4) (Qbw.l0 (k + 1) y0 y1 y2 y3 y4))
 |0=>fun _ _ _ _ _ r h=>by simp [Qbw.l0] at h
 |k+1=>by
  have ih0:=Qbw.mono_l k
  ·
   intro y0 y1 y2 y3 y4;unfold Qbw.l0
   repeat' first
   |(with_reducible exact ih0 _ _ _ _ _)
   |(with_reducible exact Qbn.mono _ _)
   |(with_reducible exact LeO.refl _)
   |(with_reducible exact LeO.none _)
   |(with_reducible refine LeO.ite ?_ ?_)
   |(with_reducible refine LeO.bind ?_ (fun _=> ?_))
   |exact ih0 _ _ _ _ _
   |exact Qbn.mono _ _
   |exact LeO.none _
   |refine LeO.ite ?_ ?_
   |refine LeO.bind ?_ (fun _=> ?_)
theorem Qbw.mono : ∀ a0 a1 k, LeO (Qbw.f k a0 a1) (Qbw.f (k + 1) a0 a1) := by
 intro a0 a1 k;have ih0:=Qbw.mono_l k;unfold Qbw.f
 repeat' (with_reducible first|apply ih0|apply Qbn.mono|exact LeO.refl _|exact LeO.none _|refine LeO.ite ?_ ?_|refine LeO.bind ?_ (fun _=> ?_))
set_option maxHeartbeats 8000000 in
set_option maxRecDepth 100000 in
theorem Qbw.calls (k : Nat) (A0_0 : Option Addr) (c0_0 : Nat) (l0_0 : List Int) (a1 : Int) (r : Int) (w : World) (hr0_0 : Kd.C (Kd.int .i64) w A0_0 l0_0.length l0_0) (hc0_0 : l0_0.length ≤ c0_0) (h : Qbw.f k l0_0 a1 = some r) :
 Calls Tryz.prog 350 #[.agg #[.slice A0_0 l0_0.length c0_0], .int .i64 a1] w fun e w'=>e= .returned (.int .i64 r)∧Below w.heap.size w w':=by
 have hu26:=Tryz.underlying26;have HR0_0:=Aside0.mk hr0_0;have HC0_0:=Aside0.mk hc0_0;clear hr0_0 hc0_0;have HB:=Aside0.mk (Below.refl w.heap.size w);have H:(if 0≤a1 then (if a1<(l0_0.length:Int) then ((Qbn.f k (rd l0_0 a1)).bind fun t408=>(Qbw.l0 k (rd l0_0 a1) t408 (t408.length:Int) 0 l0_0)) else (none)) else (none))=some r:=h;clear h
 by_cases c3:0≤a1
 ·
  rw [if_pos c3] at H;have c3b0:=decide_eq_true c3;clear c3
  by_cases c4:a1<(l0_0.length:Int)
  ·
   rw [if_pos c4] at H;have c4b0:=decide_eq_true c4;clear c4;obtain ⟨t408,A5,H⟩:=bs H;(try dsimp only at H)
   have H':=Aside0.mk H;clear H;go_enter Tryz.func350,Tryz.ntmps350;go_wp2_with (first|(refine bE (N:=2) (cs:= #[.slice A0_0 l0_0.length c0_0]) (t:=26) ?_;intro gb405 hg w6 hbox hb;have BK405:=Aside0.mk (hbox);have GW405:=Aside0.mk ((gV hg (uB HB)));have GE405:=GW405;replace HB:=Aside0.mk (Qa (uB HB) hb);clear hb hbox hg;have hcz7_0:=bC BK405;have hfz7_0:=Qf BK405.out 0;have p406:0≤(a1:Int):=of_decide_eq_true (by first|(with_reducible assumption)|assumption);have q406:a1<(l0_0.length:Int):=of_decide_eq_true (by first|(with_reducible assumption)|assumption);obtain ⟨ad406,e406,hx406_0⟩:=Kd.at_int HR0_0.out a1 p406 q406;cases e406;replace hx406_0:=(HB.out.cell (World.block_lt_of_cell? w _ hx406_0)).trans hx406_0;replace p406:=eq_true p406;replace q406:=eq_true q406;have p407:0≤(a1:Int):=of_decide_eq_true (by first|(with_reducible assumption)|assumption);have q407:a1<(l0_0.length:Int):=of_decide_eq_true (by first|(with_reducible assumption)|assumption);obtain ⟨ad407,e407,hx407_0⟩:=Kd.at_int HR0_0.out a1 p407 q407;obtain rfl:ad406=ad407:=(by injection e407);replace hx407_0:=(HB.out.cell (World.block_lt_of_cell? w _ hx407_0)).trans hx407_0;replace p407:=eq_true p407;replace q407:=eq_true q407)|(refine gA (some 18) Tryz.func277 #[.int .i64 (rd l0_0 a1)] ?_;(with_reducible refine (Qbn.calls k (rd l0_0 a1) t408 _ A5.out).mono ?_);rintro e w8 ⟨v409,rfl,ho0,hb⟩;refine ⟨_,rfl,?_⟩;have HO410:=Aside0.mk (Kd.R_lower ho0 (Qp (uB HB)));replace BK405:=Aside0.mk (Qc (uK BK405) hb);replace HB:=Aside0.mk (Qa (uB HB) hb);(try clear hb ho0);obtain ⟨Ao9,co9,eo9⟩:=Kd.R_slice HO410.out;subst eo9))
   go_loopg [5,20] k (fun kq v5 v20 w'=> ∃ (x5_1:Int) (x20_1:Int),v5= .int .i64 x5_1∧v20= .int .i64 x20_1∧Aside0 (Qbw.l0 kq x5_1 t408 (t408.length:Int) x20_1 l0_0=some r)∧Aside0 (kq≤k)∧Aside0 (Kd.R (Kd.int .i64) 3 w' w.heap.size (fun _=>True) (.slice Ao9 t408.length co9) t408)∧Aside0 (w'.heap[gb405]? =some (.cells #[(.slice (some ad406) l0_0.length c0_0)] 26 (0,0)))∧Aside0 (Below w.heap.size w w'))
   case atStart=>exact ⟨(rd l0_0 a1),(0),(by first|rfl|(simp;done)|(simp [*];done)),(by first|rfl|(simp;done)|(simp [*];done)),H',⟨Nat.le_refl _⟩,⟨uR HO410⟩,⟨uK BK405⟩,⟨uB HB⟩⟩
   case round=>
    clear H'
    try clear c2
    try clear p2
    try clear c3
    try clear c3b0
    try clear c4
    try clear c4b0
    try clear p4
    try clear q4
    try clear hx4
    try clear hcz7_0
    try clear hfz7_0
    try clear hx406_0
    try clear hx407_0
    try clear p406
    try clear p407
    try clear q406
    try clear q407
    obtain ⟨x5_1,x20_1,rfl,rfl,HA,HK1,HO_18,BK405,HB⟩:=hrel;cases gk with
    |zero=>exact absurd HA.out (by simp [Qbw.l0])
    |succ k1=>
     have H:=HA.out;clear HA;simp only [Qbw.l0] at H
     by_cases c10:x20_1<(t408.length:Int)
     ·
      rw [if_pos c10] at H;have c10b0:=decide_eq_true c10;clear c10
      by_cases c11:0≤x20_1
      ·
       rw [if_pos c11] at H;have c11b0:=decide_eq_true c11;clear c11
       by_cases c12:x20_1<(t408.length:Int)
       ·
        rw [if_pos c12] at H;have c12b0:=decide_eq_true c12;clear c12
        by_cases c13:0≤(rd t408 x20_1)
        ·
         rw [if_pos c13] at H;have c13b0:=decide_eq_true c13;clear c13
         by_cases c14:(rd t408 x20_1)<(l0_0.length:Int)
         ·
          rw [if_pos c14] at H;have c14b0:=decide_eq_true c14;clear c14;have H':=Aside0.mk H;clear H;have p411:0≤(x20_1:Int):=of_decide_eq_true (by first|(with_reducible assumption)|assumption);have q411:x20_1<(t408.length:Int):=of_decide_eq_true (by first|(with_reducible assumption)|assumption);obtain ⟨ad411,e411,hx411_0⟩:=Kd.at_int (Kd.R_reads' HO_18.out).2.2 x20_1 p411 q411;cases e411;replace p411:=eq_true p411;replace q411:=eq_true q411;have hcz15_0:=bC BK405;have hfz15_0:=Qf BK405.out 0;have p412:0≤((rd t408 x20_1):Int):=of_decide_eq_true (by first|(with_reducible assumption)|assumption);have q412:(rd t408 x20_1)<(l0_0.length:Int):=of_decide_eq_true (by first|(with_reducible assumption)|assumption);obtain ⟨ad412,e412,hx412_0⟩:=Kd.at_int HR0_0.out (rd t408 x20_1) p412 q412;obtain rfl:ad406=ad412:=(by injection e412)
          replace hx412_0:=(HB.out.cell (World.block_lt_of_cell? w _ hx412_0)).trans hx412_0;replace p412:=eq_true p412;replace q412:=eq_true q412;go_wp2;go_roundg k1
          case measure=>have:=HK1.out;omega
          case rel=>exact ⟨(Go.bits .andNot .i64 x5_1 (rd l0_0 (rd t408 x20_1))),(wrap64 (x20_1+1)),(by first|rfl|(simp;done)|(simp [*];done)),(by first|rfl|(simp;done)|(simp [*];done)),H',⟨by have:=HK1.out;omega⟩,⟨uR HO_18⟩,⟨uK BK405⟩,⟨uB HB⟩⟩
         ·
          rw [if_neg c14] at H;exact absurd H (by simp)
        ·
         rw [if_neg c13] at H;exact absurd H (by simp)
       ·
        rw [if_neg c12] at H;exact absurd H (by simp)
      ·
       rw [if_neg c11] at H;exact absurd H (by simp)
     ·
      rw [if_neg c10] at H;have c10b0:=decide_eq_false c10;clear c10;obtain rfl:=Option.some.inj H;go_wp2
      go_ret
      exact ⟨by first|rfl|(simp [Qd,Qe] <;>rfl)|(simp [*,Qd,Qe] <;>rfl),uB HB⟩
  ·
   rw [if_neg c4] at H;exact absurd H (by simp)
 ·
  rw [if_neg c3] at H;exact absurd H (by simp)
mutual
def Qbf.l0 : Nat → List (List Int) → Int → Int → List Int → Option ((List (List Int)))
 |0,_,_,_,_=>none
 |k+1,x3,x8,x9,x414000=>if x9<x8 then ((Qcx.f x414000).bind fun t418=>(Qbf.l1 k x3 x9 x8 x9 t418 0 x414000)) else (some x3)
def Qbf.l1 : Nat → List (List Int) → Int → Int → Int → Int → Int → List Int → Option ((List (List Int)))
 |0,_,_,_,_,_,_,_=>none
 |k+1,x3,x4,x8,x9,x13,x14,x414000=>if x14<x13 then ((Qbw.f k x414000 x14).bind fun t419=>((Qel.f t419 x4).bind fun t420=>(if t420=true then (if x3.length<5864062014805 then (Qbf.l1 k (x3++ [(([x4,x14] :List Int))]) x4 x8 x9 x13 (wrap64 (x14+1)) x414000) else (none)) else (Qbf.l1 k x3 x4 x8 x9 x13 (wrap64 (x14+1)) x414000)))) else (Qbf.l0 k x3 x8 (wrap64 (x9+1)) x414000)
end
def Qbf.f (k : Nat) (l0_0 : List Int) : Option ((List (List Int))) := (Qcx.f l0_0).bind fun t417 => (Qbf.l0 k (([] : List (List Int))) t417 0 l0_0)
theorem Qbf.mono_l : ∀ k, (∀ y0 y1 y2 y3, LeO (Qbf.l0 k y0 y1 y2 y3) (Qbf.l0 (k + 1) y0 y1 y2 y3)) ∧ (∀ y0 y1 y2 y3 y4 y5 y6, LeO (Qbf.l1 k y0 y1 y2 y3 y4 y5 y6) (Qbf.l1 (k + 1) y0 y1 y2 y3 y4 y5 y6))
 |0=>⟨fun _ _ _ _ r h=>by simp [Qbf.l0] at h,fun _ _ _ _ _ _ _ r h=>by simp [Qbf.l1] at h⟩
 |k+1=>by
  obtain ⟨ih0,ih1⟩:=Qbf.mono_l k;refine ⟨?_,?_⟩
  all_goals
   intros
   first|unfold Qbf.l0|unfold Qbf.l1
   repeat' (with_reducible first|apply ih0|apply ih1|apply Qbw.mono|exact LeO.refl _|exact LeO.none _|refine LeO.ite ?_ ?_|refine LeO.bind ?_ (fun _=> ?_))
theorem Qbf.mono : ∀ a0 k, LeO (Qbf.f k a0) (Qbf.f (k + 1) a0) := by
 intro a0 k;obtain ⟨ih0,ih1⟩:=Qbf.mono_l k;unfold Qbf.f
 repeat' (with_reducible first|apply ih0|apply ih1|apply Qbw.mono|exact LeO.refl _|exact LeO.none _|refine LeO.ite ?_ ?_|refine LeO.bind ?_ (fun _=> ?_))
set_option maxHeartbeats 8000000 in
set_option maxRecDepth 100000 in
theorem Qbf.calls (k : Nat) (A0_0 : Option Addr) (c0_0 : Nat) (l0_0 : List Int) (r : List (List Int)) (w : World) (hr0_0 : Kd.C (Kd.int .i64) w A0_0 l0_0.length l0_0) (hc0_0 : l0_0.length ≤ c0_0) (h : Qbf.f k l0_0 = some r) :
 Calls Tryz.prog 333 #[.agg #[.slice A0_0 l0_0.length c0_0]] w fun e w'=> ∃ v0_:Value,e= .returned (v0_)∧Kd.S (Kd.slice 3 (Kd.int .i64)) 24 w' w.heap.size (fun _=>True) v0_ r∧Below w.heap.size w w':=by
 have hu26:=Tryz.underlying26;have HR0_0:=Aside0.mk hr0_0;have HC0_0:=Aside0.mk hc0_0;clear hr0_0 hc0_0;have HB:=Aside0.mk (Below.refl w.heap.size w);have H:((Qcx.f l0_0).bind fun t417=>(Qbf.l0 k (([] :List (List Int))) t417 0 l0_0))=some r:=h;clear h;obtain ⟨y414,hy414⟩: ∃ y_:List (List Int),y_=(([] :List (List Int))):=⟨_,rfl⟩
 replace H:((Qcx.f l0_0).bind fun t417=>(Qbf.l0 k y414 t417 0 l0_0))=some r:=by first|(rw [hy414];with_reducible exact H)|(have H2_:=(Option.bind_some _ _).symm.trans H;rw [hy414];with_reducible exact H2_)|(have H2_:=(Option.bind_some _ _).symm.trans H;with_reducible exact H2_)|with_reducible exact H|(rw [hy414];exact H)|exact H
 have Ny414:=Aside0.mk hy414;clear hy414;obtain ⟨t417,A2,H⟩:=bs H;(try dsimp only at H)
 have H':=Aside0.mk H;clear H;go_enter Tryz.func333,Tryz.ntmps333;go_wp2_with (first|(refine bE (N:=1) (cs:= #[.slice A0_0 l0_0.length c0_0]) (t:=26) ?_;intro gb413 hg w3 hbox hb;have BK413:=Aside0.mk (hbox);have GW413:=Aside0.mk ((gV hg (uB HB)));have GE413:=GW413;replace HB:=Aside0.mk (Qa (uB HB) hb);clear hb hbox hg)|((with_reducible refine Qc0 (N:=6) rfl ?_);refine Kd.S_lit (Kd.slice 3 (Kd.int .i64)) _ 24 ?hg (N:=6) ?hd (xs:=([] :List (List Int))) (inner:= []) (ok:=fun _=>True) (okp:=fun _=>True) ?hr ?hp (fun _ hk=>hk) trivial (Below.refl _ _) (Nat.le_refl _) (by simp) ?_;(case hd=>rfl);(case hg=>rfl);(case hr=>first|(go_simp;done)|(go_simp;rfl));(case hp=>exact (Reps.none _ _));intro v415 w4 ho5 hb hg_ hnew_;clear hg_ hnew_;(first|rw [←Ny414.out] at ho5|(simp only [Int.reduceToNat] at ho5;rw [←Ny414.out] at ho5));have HO416:=Aside0.mk (Kd.S_lower ho5 (Qp (uB HB)));replace BK413:=Aside0.mk (Qc (uK BK413) hb);replace HB:=Aside0.mk (Qa (uB HB) hb);clear hb ho5;have hcz6_0:=bC BK413;have hfz6_0:=Qf BK413.out 0)|(refine gA (some 8) Tryz.func244 #[.agg #[.slice A0_0 l0_0.length c0_0]] ?_;(with_reducible refine (Qcx.calls _ _ l0_0 t417 _ (uD HR0_0 HB) HC0_0.out A2.out).mono ?_);rintro e w7 ⟨rfl,hb⟩;refine ⟨_,rfl,?_⟩;replace HO416:=Aside0.mk (Kd.S_below (uS HO416) hb);replace BK413:=Aside0.mk (Qc (uK BK413) hb);replace HB:=Aside0.mk (Qa (uB HB) hb);(try clear hb)))
 go_loopg [3,9] k (fun kq v3 v9 w'=> ∃ (x3_1:List (List Int)) (x9_1:Int),v9= .int .i64 x9_1∧Aside0 (Qbf.l0 kq x3_1 t417 x9_1 l0_0=some r)∧Aside0 (kq≤k)∧Aside0 (Kd.S (Kd.slice 3 (Kd.int .i64)) 24 w' w.heap.size (fun _=>True) v3 x3_1)∧Aside0 (w'.heap[gb413]? =some (.cells #[(.slice A0_0 l0_0.length c0_0)] 26 (0,0)))∧Aside0 (Below w.heap.size w w'))
 case atStart=>exact ⟨(y414),(0),(by first|rfl|(simp;done)|(simp [*];done)),H',⟨Nat.le_refl _⟩,⟨uS HO416⟩,⟨uK BK413⟩,⟨uB HB⟩⟩
 case round=>
  clear H'
  try clear c2
  try clear p2
  try clear c3
  try clear hcz6_0
  try clear hfz6_0
  obtain ⟨x3_1,x9_1,rfl,HA,HK1,HO_3,BK413,HB⟩:=hrel;cases gk with
  |zero=>exact absurd HA.out (by simp [Qbf.l0])
  |succ k1=>
   have H:=HA.out;clear HA;simp only [Qbf.l0] at H
   by_cases c8:x9_1<t417
   ·
    rw [if_pos c8] at H;have c8b0:=decide_eq_true c8;clear c8;obtain ⟨t418,A9,H⟩:=bs H;(try dsimp only at H)
    have H':=Aside0.mk H;clear H;have hcz10_0:=bC BK413;have hfz10_0:=Qf BK413.out 0;go_wp2_with (first|(refine gA (some 13) Tryz.func244 #[.agg #[.slice A0_0 l0_0.length c0_0]] ?_;(with_reducible refine (Qcx.calls _ _ l0_0 t418 _ (uD HR0_0 HB) HC0_0.out A9.out).mono ?_);rintro e w11 ⟨rfl,hb⟩;refine ⟨_,rfl,?_⟩;replace HO_3:=Aside0.mk (Kd.S_below (uS HO_3) hb);replace BK413:=Aside0.mk (Qc (uK BK413) hb);replace HB:=Aside0.mk (Qa (uB HB) hb);(try clear hb)))
    go_loopg [3,14] k1 (fun kq v3 v14 w'=> ∃ (x3_2:List (List Int)) (x14_2:Int),v14= .int .i64 x14_2∧Aside0 (Qbf.l1 kq x3_2 x9_1 t417 x9_1 t418 x14_2 l0_0=some r)∧Aside0 (kq≤k1)∧Aside0 (Kd.S (Kd.slice 3 (Kd.int .i64)) 24 w' w.heap.size (fun _=>True) v3 x3_2)∧Aside0 (w'.heap[gb413]? =some (.cells #[(.slice A0_0 l0_0.length c0_0)] 26 (0,0)))∧Aside0 (Below w.heap.size w w'))
    case atStart=>exact ⟨(x3_1),(0),(by first|rfl|(simp;done)|(simp [*];done)),H',⟨Nat.le_refl _⟩,⟨uS HO_3⟩,⟨uK BK413⟩,⟨uB HB⟩⟩
    case round=>
     clear H'
     try clear c2
     try clear p2
     try clear c3
     try clear c8
     try clear c8b0
     try clear hcz10_0
     try clear hcz6_0
     try clear hfz10_0
     try clear hfz6_0
     try clear p2
     obtain ⟨x3_2,x14_2,rfl,HA,HK2,HO_3,BK413,HB⟩:=hrel;cases gk with
     |zero=>exact absurd HA.out (by simp [Qbf.l1])
     |succ k2=>
      have H:=HA.out;clear HA;simp only [Qbf.l1] at H
      by_cases c12:x14_2<t418
      ·
       rw [if_pos c12] at H;have c12b0:=decide_eq_true c12;clear c12;obtain ⟨t419,A13,H⟩:=bs H;(try dsimp only at H)
       obtain ⟨t420,A14,H⟩:=bs H;(try dsimp only at H)
       by_cases c15:t420=true
       ·
        subst c15;rw [if_pos rfl] at H;obtain ⟨y421,hy421⟩: ∃ y_:List Int,y_=(([x9_1,x14_2] :List Int)):=⟨_,rfl⟩
        replace H:(if x3_2.length<5864062014805 then (Qbf.l1 k2 (x3_2++ [y421]) x9_1 t417 x9_1 t418 (wrap64 (x14_2+1)) l0_0) else (none))=some r:=by first|(rw [hy421];with_reducible exact H)|(have H2_:=(Option.bind_some _ _).symm.trans H;rw [hy421];with_reducible exact H2_)|(have H2_:=(Option.bind_some _ _).symm.trans H;with_reducible exact H2_)|with_reducible exact H|(rw [hy421];exact H)|exact H
        have Ny421:=Aside0.mk hy421;clear hy421
        by_cases c16:x3_2.length<5864062014805
        ·
         rw [if_pos c16] at H;have LMc16:=Aside0.mk c16;clear c16;obtain ⟨y424,hy424⟩: ∃ y_:List (List Int),y_=(x3_2++ [y421]):=⟨_,rfl⟩
         replace H:(Qbf.l1 k2 y424 x9_1 t417 x9_1 t418 (wrap64 (x14_2+1)) l0_0)=some r:=by first|(rw [hy424];with_reducible exact H)|(have H2_:=(Option.bind_some _ _).symm.trans H;rw [hy424];with_reducible exact H2_)|(have H2_:=(Option.bind_some _ _).symm.trans H;with_reducible exact H2_)|with_reducible exact H|(rw [hy424];exact H)|exact H
         have Ny424:=Aside0.mk hy424;clear hy424;have H':=Aside0.mk H;clear H;have hcz17_0:=bC BK413;have hfz17_0:=Qf BK413.out 0;go_wp2_with (first|(refine gA (some 19) Tryz.func350 #[.agg #[.slice A0_0 l0_0.length c0_0], .int .i64 x14_2] ?_;(with_reducible refine (Qbw.calls k2 _ _ l0_0 x14_2 t419 _ (uD HR0_0 HB) HC0_0.out A13.out).mono ?_);rintro e w18 ⟨rfl,hb⟩;refine ⟨_,rfl,?_⟩;replace HO_3:=Aside0.mk (Kd.S_below (uS HO_3) hb);replace BK413:=Aside0.mk (Qc (uK BK413) hb);replace HB:=Aside0.mk (Qa (uB HB) hb);(try clear hb))|(refine gA (some 21) Tryz.func294 #[.int .i64 t419, .int .i64 x9_1] ?_;(with_reducible refine (Qel.calls t419 x9_1 true _ A14.out).mono ?_);rintro e w' ⟨rfl,⟨nd,rfl⟩⟩;refine ⟨_,rfl,?_⟩)|((with_reducible refine Qc0 (N:=25) rfl ?_);refine Kd.R_lit (Kd.int .i64) _ 3 ?hg (N:=25) ?hd (xs:=([x9_1,x14_2] :List Int)) (inner:= [.int .i64 x9_1, .int .i64 x14_2]) (ok:=fun _=>True) (okp:=fun _=>True) ?hr ?hp (fun _ hk=>hk) trivial (Below.refl _ _) (Nat.le_refl _) (by simp) ?_;(case hd=>rfl);(case hg=>rfl);(case hr=>first|(go_simp;done)|(go_simp;rfl));(case hp=>exact (Reps.one (show Kd.M (Kd.int .i64) _ _ _ x9_1 [.int .i64 x9_1] from rfl) (Reps.one (show Kd.M (Kd.int .i64) _ _ _ x14_2 [.int .i64 x14_2] from rfl) (Reps.none _ _))));intro v422 w19 ho20 hb hg_ hnew_;clear hg_ hnew_;(first|rw [←Ny421.out] at ho20|(simp only [Int.reduceToNat] at ho20;rw [←Ny421.out] at ho20));replace HO_3:=Aside0.mk (Kd.S_elder' (uS HO_3) (Kd.R_base ho20) hb);have HO423:=Aside0.mk (Kd.R_lower ho20 (Qp (uB HB)));replace BK413:=Aside0.mk (Qc (uK BK413) hb);replace HB:=Aside0.mk (Qa (uB HB) hb);clear hb ho20;obtain ⟨Ao22,co22,eo22⟩:=Kd.R_slice HO423.out;subst eo22)|((with_reducible refine Qc4 (b:= .append) (xs:= #[.tmp 22, .tmp 26]) rfl ?_);at_builtin;refine Kd.S_append (Kd.slice 3 (Kd.int .i64)) (w0:=w) w.heap.size rfl (.tmp 22) (.tmp 26) 40 24 (.slice none 0 0) 24 rfl Tryz.underlying40 Qfw rfl (by decide) (by omega) u3 x3_2 y421 [.slice Ao22 y421.length co22] (fun _=>True) (fun k_=>some k_=(.slice Ao22 y421.length co22:Value).ownBlock) rfl rfl ?aP (fun k_ hk_=>((Kd.R_mono (ok':=fun k_=>((fun _=>True)) k_∧some k_≠(u3:Value).ownBlock) (Kd.R_apart' (HO423.out) (Kd.S_typed HO_3.out) (by decide)) (fun k_ hk=>⟨trivial,hk.2⟩))).1 k_ hk_.symm) ?aF ?aO ?aB ?aS ?aL ?_;(case aP=>exact Kd.M_row (Kd.R_mono (Kd.R_tight rfl (Kd.R_mono (ok':=fun k_=>((fun _=>True)) k_∧some k_≠(u3:Value).ownBlock) (Kd.R_apart' (HO423.out) (Kd.S_typed HO_3.out) (by decide)) (fun k_ hk=>⟨trivial,hk.2⟩))) (fun _ h_=>h_)));(case aB=>exact (uB HB));(case aF=>exact (fun _ _=>trivial));(case aO=>exact (by (with_reducible repeat (first|apply Kd.S_alloc|apply Kd.S_drewN|apply Kd.S_drew));exact Kd.S_mono HO_3.out (fun k_ hk=>⟨trivial,fun e_=>hk.2 e_⟩)));(case aS=>exact (Qp (uB HB)));(case aL=>have:=LMc16.out;omega);intro v425 w21 ho hb hg hat;rw [←Ny424.out] at ho;replace BK413:=Aside0.mk (Qds (uK BK413) hg (Kd.S_ne HO_3.out BK413.out (by decide)));replace HB:=Aside0.mk (hb);have HO426:=Aside0.mk (ho);clear HO_3 HO423;clear ho hb hg hat));go_roundg k2
         case measure=>have:=HK1.out;have:=HK2.out;omega
         case rel=>exact ⟨(y424),(wrap64 (x14_2+1)),(by first|rfl|(simp;done)|(simp [*];done)),H',⟨by have:=HK1.out;have:=HK2.out;omega⟩,⟨uS HO426⟩,⟨uK BK413⟩,⟨uB HB⟩⟩
        ·
         rw [if_neg c16] at H;exact absurd H (by simp)
       ·
        replace c15:=Bool.eq_false_iff.mpr c15;subst c15;rw [if_neg (show ¬ (false=true) by decide)] at H;have H':=Aside0.mk H;clear H;have hcz23_0:=bC BK413;have hfz23_0:=Qf BK413.out 0;go_wp2_with (first|(refine gA (some 19) Tryz.func350 #[.agg #[.slice A0_0 l0_0.length c0_0], .int .i64 x14_2] ?_;(with_reducible refine (Qbw.calls k2 _ _ l0_0 x14_2 t419 _ (uD HR0_0 HB) HC0_0.out A13.out).mono ?_);rintro e w24 ⟨rfl,hb⟩;refine ⟨_,rfl,?_⟩;replace HO_3:=Aside0.mk (Kd.S_below (uS HO_3) hb);replace BK413:=Aside0.mk (Qc (uK BK413) hb);replace HB:=Aside0.mk (Qa (uB HB) hb);(try clear hb))|(refine gA (some 21) Tryz.func294 #[.int .i64 t419, .int .i64 x9_1] ?_;(with_reducible refine (Qel.calls t419 x9_1 false _ A14.out).mono ?_);rintro e w' ⟨rfl,⟨nd,rfl⟩⟩;refine ⟨_,rfl,?_⟩));go_roundg k2
        case measure=>have:=HK1.out;have:=HK2.out;omega
        case rel=>exact ⟨(x3_2),(wrap64 (x14_2+1)),(by first|rfl|(simp;done)|(simp [*];done)),H',⟨by have:=HK1.out;have:=HK2.out;omega⟩,⟨uS HO_3⟩,⟨uK BK413⟩,⟨uB HB⟩⟩
      ·
       rw [if_neg c12] at H;have c12b0:=decide_eq_false c12;clear c12;have H':=Aside0.mk H;clear H;go_wp2;go_roundg k2
       case measure=>have:=HK1.out;have:=HK2.out;omega
       case rel=>exact ⟨(x3_2),(wrap64 (x9_1+1)),(by first|rfl|(simp;done)|(simp [*];done)),H',⟨by have:=HK1.out;have:=HK2.out;omega⟩,⟨uS HO_3⟩,⟨uK BK413⟩,⟨uB HB⟩⟩
   ·
    rw [if_neg c8] at H;have c8b0:=decide_eq_false c8;clear c8;obtain rfl:=Option.some.inj H;go_wp2
    go_ret
    exact ⟨_,by first|rfl|(simp [Qd,Qe] <;>rfl)|(simp [*,Qd,Qe] <;>rfl),uS HO_3,uB HB⟩
end Go.Proofs.YtkgngggppcmpfaaGreat.L
end
section
namespace Go.Proofs.YtkgngggppcmpfaaGreat.L
open Go.RowKit Go.Proofs.YtkgngggppcmpfaaGreatW.PrintWords Go.Proofs.YtkgngggppcmpfaaGreatW.PrintLast Go.Proofs.YtkgngggppcmpfaaGreatW.PrintMore
attribute [local go_sem] Qt Qv Q2 Q3 Qm Qn Qu Qw
set_option linter.unusedVariables false
set_option linter.unusedSimpArgs false
def Qcl.p (h : List Int) (c : List Int) : Bool := rd h (rd c 1) != wrap64 (rd h (rd c 0) + 1)
def Qcl.ok (h : List Int) (c : List (List Int)) : Bool := decide (c.length ≤ 9223372036854775806) && c.all fun x => decide (x.length = 2) && decide (0 ≤ rd x 0) && decide (rd x 0 < (h.length : Int)) && decide (0 ≤ rd x 1) && decide (rd x 1 < (h.length : Int))
def Qcl.f (k : Nat) (l0_0 : List Int) : Option (Bool × Bool) := (Qbp.f k l0_0).bind fun t => if t = true then (Qs.f k l0_0).bind fun h => (Qbf.f k l0_0).bind fun c => if Qcl.ok h c = true then some (!(c.any (Qcl.p h)), true) else none else some (false, false)
theorem Qcl.mono : ∀ a0 k, LeO (Qcl.f k a0) (Qcl.f (k + 1) a0) := by
 intro a0 k;unfold Qcl.f;refine LeO.bind (Qbp.mono _ _) (fun t=>LeO.ite (LeO.bind (Qs.mono _ _) (fun h=>LeO.bind (Qbf.mono _ _) (fun c=>LeO.refl _))) (LeO.refl _))
open Go.Proofs.YtkgngggppcmpfaaGreat.X in
set_option maxHeartbeats 1000000 in
set_option maxRecDepth 100000 in
theorem Qcl.lit (Ah : Option Addr) (ch : Nat) (h : List Int) (x : List Int) (B : Nat) (w : World) (hr : Kd.C (Kd.int .i64) w Ah h.length h) (hB : B < w.heap.size) (hc : w.cell? ⟨B, 0, none⟩ = some (.slice Ah h.length ch))
 (hx:x.length=2) (h0:0≤rd x 0) (h1:rd x 0<(h.length:Int)) (h2:0≤rd x 1) (h3:rd x 1<(h.length:Int)):
 FvL Tryz.prog 334 #[.pointer (some ⟨B,0,none⟩)] x (.bool (Qcl.p h x)) w:=by
 intro W A c hb hrx hlx;have hc':W.cell? ⟨B,0,none⟩=some (.slice Ah h.length ch):=(hb.cell (p:=⟨B,0,none⟩) hB).trans hc;obtain ⟨i,hi⟩: ∃ i:Nat,rd x 0=(i:Int):=⟨(rd x 0).toNat,by omega⟩
 obtain ⟨j,hj⟩: ∃ j:Nat,rd x 1=(j:Int):=⟨(rd x 1).toNat,by omega⟩
 unfold Qcl.p;rw [hi,hj];rw [hi] at h0 h1;rw [hj] at h2 h3;obtain ⟨ax,ex,hx0⟩:=Kd.at_int hrx 0 (by omega) (by omega);obtain ⟨ax',ex',hx1⟩:=Kd.at_int hrx 1 (by omega) (by omega);subst ex;cases ex';obtain ⟨ah,eh,hh0⟩:=Kd.at_int (Kd.C_below hr hb) (i:Int) (by omega) h1;obtain ⟨ah',eh',hh1⟩:=Kd.at_int (Kd.C_below hr hb) (j:Int) (by omega) h3;subst eh;cases eh';rw [hi] at hx0;rw [hj] at hx1;rw [Int.toNat_natCast] at hh0 hh1;obtain ⟨u,hu⟩: ∃ u,u=rd h (i:Int):=⟨_,rfl⟩
 obtain ⟨v,hv⟩: ∃ v,v=rd h (j:Int):=⟨_,rfl⟩
 rw [←hu] at hh0 ⊢;rw [←hv] at hh1 ⊢;have hx0':W.cell? ax=some (.int .i64 (i:Int)):=by simpa [Addr.add] using hx0
 have hx1':W.cell? ⟨ax.block,ax.off+1,none⟩=some (.int .i64 (j:Int)):=hx1;have q1:(i:Int)<(h.length:Int):=h1;have q2:(j:Int)<(h.length:Int):=h3;have q3:(0:Int)<(2:Int):=by omega
 have q4:(1:Int)<(2:Int):=by omega
 rw [hx];clear hr hrx hb hu hv hi hj h0 h2 hx0 hx1 hlx hB hc hx;go_enter Tryz.func334,Tryz.ntmps334;go_wp2
 repeat (go_quiet (fail);try go_wp2)
 go_ret
 exact ⟨rfl,Qq (Below.refl _ _) _⟩
open Go.Proofs.YtkgngggppcmpfaaGreat.X in
set_option maxHeartbeats 1600000 in
set_option maxRecDepth 100000 in
theorem Qcl.calls (k : Nat) (A0_0 : Option Addr) (c0_0 : Nat) (l0_0 : List Int) (r1 : Bool) (r2 : Bool) (w : World) (hr0_0 : Kd.C (Kd.int .i64) w A0_0 l0_0.length l0_0) (hc0_0 : l0_0.length ≤ c0_0) (h : Qcl.f k l0_0 = some (r1, r2)) :
 Calls Tryz.prog 281 #[.agg #[.slice A0_0 l0_0.length c0_0]] w fun e w'=>e= .returned (.tuple #[.bool r1, .bool r2])∧Below w.heap.size w w':=by
 have HR:=Aside0.mk hr0_0;have HC:=Aside0.mk hc0_0;clear hr0_0 hc0_0;unfold Qcl.f at h;obtain ⟨t,ht,h⟩:=Option.bind_eq_some_iff.mp h;have HT:=Aside0.mk ht;clear ht;have hu:=Tryz.underlying26;cases t with
 |false=>
  have h':some (false,false)=some (r1,r2):=h;injection h' with h'
  injection h' with h1 h2
  subst h1 h2;clear h;go_enter Tryz.func281,Tryz.ntmps281;go_wp2_with (go_at_call 178;(with_reducible refine (Qbp.calls k _ _ l0_0 false _ (Kd.C_below HR.out (Qo (Below.refl _ _) _)) HC.out HT.out).mono ?_);rintro e w1 ⟨rfl,hb⟩)
  go_ret2
  exact ⟨rfl,Qdj (Qo (Below.refl _ _) _) hb⟩
 |true=>
  obtain ⟨hs,hh,h⟩:=Option.bind_eq_some_iff.mp h;obtain ⟨cs,hcs,h⟩:=Option.bind_eq_some_iff.mp h;have HH:=Aside0.mk hh;have HCS:=Aside0.mk hcs;clear hh hcs
  by_cases hok:Qcl.ok hs cs=true
  ·
   have h':some (!(cs.any (Qcl.p hs)),true)=some (r1,r2):=by rw [if_pos hok] at h;exact h
   injection h' with h'
   injection h' with h1 h2
   subst h1 h2;clear h;simp only [Qcl.ok,Bool.and_eq_true,decide_eq_true_eq,List.all_eq_true] at hok;have HOK:=Aside0.mk hok;clear hok;go_enter Tryz.func281,Tryz.ntmps281;go_wp2_with fail;refine (Qbp.calls k _ _ l0_0 true _ (Kd.C_below HR.out (Qo (Below.refl _ _) _)) HC.out HT.out).mono ?_;rintro e w1 ⟨rfl,hb⟩;have b1:=Qdj (Qo (Below.refl w.heap.size w) (.cells #[.slice A0_0 l0_0.length c0_0] 26)) hb;have z1:w.heap.size<w1.heap.size:=by have:=hb.size;simp at this;omega
   have c1:w1.cell? ⟨w.heap.size,0,none⟩=some (.slice A0_0 l0_0.length c0_0):=(hb.cell (p:=⟨w.heap.size,0,none⟩) (by simp)).trans (by simp);have B1:=Aside0.mk b1;clear hb b1;go_wp2_with fail;refine (Qs.calls k _ _ l0_0 hs _ (Kd.C_below HR.out B1.out) HC.out HH.out).mono ?_;rintro e w2 ⟨v0,rfl,hR,hb⟩;obtain ⟨Ah,ch,rfl,hl,hC⟩:=Kd.R_reads hR;have b2:=Qdj B1.out hb;have z2:w.heap.size<w2.heap.size:=by have:=hb.size;omega
   have c2:w2.cell? ⟨w.heap.size,0,none⟩=some (.slice A0_0 l0_0.length c0_0):=(hb.cell (p:=⟨w.heap.size,0,none⟩) z1).trans c1;have B2:=Aside0.mk b2;have HCh:=Aside0.mk hC;clear hb b2 c1 B1 hR hl hC;go_wp2_with fail;have B3:=Aside0.mk (Qdj B2.out (Qo (Below.refl w2.heap.size w2) (.cells #[.slice Ah hs.length ch] 24)));have C3:=Aside0.mk (Kd.C_alloc HCh.out (.cells #[.slice Ah hs.length ch] 24));have c3:(w2.alloc (.cells #[.slice Ah hs.length ch] 24)).cell? ⟨w2.heap.size,0,none⟩=some (.slice Ah hs.length ch):=by simp
   have z3:w2.heap.size<(w2.alloc (.cells #[.slice Ah hs.length ch] 24)).heap.size:=by simp
   refine (Qbf.calls k _ _ l0_0 cs _ (Kd.C_below HR.out B3.out) HC.out HCS.out).mono ?_;rintro e w4 ⟨v1,rfl,hS,hb⟩;obtain ⟨Ac,cc,rfl,hlc,hCc⟩:=Kd.S_reads hS;have B4:=Aside0.mk (Qdj B3.out hb);have C4:=Aside0.mk (Kd.C_below C3.out hb);have CC4:=Aside0.mk hCc;have c4:w4.cell? ⟨w2.heap.size,0,none⟩=some (.slice Ah hs.length ch):=(hb.cell (p:=⟨w2.heap.size,0,none⟩) z3).trans c3;have z4:w2.heap.size<w4.heap.size:=by have:=hb.size;omega
   have Z4:=Aside0.mk z4;have D4:=Aside0.mk c4;clear hb hS hCc hlc c3 z3 c4 z4 B3 C3 c2 z2 B2 HCh;go_wp2_with fail;refine (Qi8.calls Ac cc cs 334 #[.pointer (some ⟨w2.heap.size,0,none⟩)] (Qcl.p hs) _ (Qgl Tryz.func334 (by kernel_rfl) rfl) CC4.out HOK.out.1 (fun x hx=> ?_)).mono ?_
   ·
    obtain ⟨⟨⟨⟨x1,x2⟩,x3⟩,x4⟩,x5⟩:=HOK.out.2 x hx;exact Qcl.lit Ah ch hs x _ _ C4.out Z4.out D4.out x1 x2 x3 x4 x5
   rintro e w5 ⟨rfl,hb⟩;have B5:=Aside0.mk (Qdj B4.out hb);clear hb;go_wp2
   go_ret2
   exact ⟨rfl,B5.out⟩
  ·
   exact absurd h (by rw [if_neg hok];simp)
end Go.Proofs.YtkgngggppcmpfaaGreat.L
end
section
namespace Go.Proofs.YtkgngggppcmpfaaGreat.L
open Go.RowKit Go.Proofs.YtkgngggppcmpfaaGreatW.PrintWords Go.Proofs.YtkgngggppcmpfaaGreatW.PrintLast Go.Proofs.YtkgngggppcmpfaaGreatW.PrintMore Go.Proofs.YtkgngggppcmpfaaGreat.X
attribute [local go_sem] Qt Qv Q2 Q3 Qm Qn Qu Qw
set_option linter.unusedVariables false
set_option linter.unusedSimpArgs false
def Qcp.f (k : Nat) (l0_0 : List Int) : Option (Bool) := (Qcl.f k l0_0).bind fun bt428 => (some bt428.1)
theorem Qcp.mono : ∀ a0 k, LeO (Qcp.f k a0) (Qcp.f (k + 1) a0) := by
 intro a0 k;unfold Qcp.f
 repeat' (with_reducible first|apply Qcl.mono|exact LeO.refl _|exact LeO.none _|refine LeO.ite ?_ ?_|refine LeO.bind ?_ (fun _=> ?_))
set_option maxHeartbeats 8000000 in
set_option maxRecDepth 100000 in
theorem Qcp.calls (k : Nat) (A0_0 : Option Addr) (c0_0 : Nat) (l0_0 : List Int) (r : Bool) (w : World) (hr0_0 : Kd.C (Kd.int .i64) w A0_0 l0_0.length l0_0) (hc0_0 : l0_0.length ≤ c0_0) (h : Qcp.f k l0_0 = some r) :
 Calls Tryz.prog 156 #[.agg #[.slice A0_0 l0_0.length c0_0]] w fun e w'=>e= .returned (.bool r)∧Below w.heap.size w w':=by
 have hu26:=Tryz.underlying26;have HR0_0:=Aside0.mk hr0_0;have HC0_0:=Aside0.mk hc0_0;clear hr0_0 hc0_0;have HB:=Aside0.mk (Below.refl w.heap.size w);have H:((Qcl.f k l0_0).bind fun bt428=>(some bt428.1))=some r:=h;clear h;obtain ⟨⟨t428,t429⟩,A2,H⟩:=bs H;(try dsimp only at H)
 obtain rfl:=Option.some.inj H;go_enter Tryz.func156,Tryz.ntmps156;go_wp2_with (first|(refine bE (N:=1) (cs:= #[.slice A0_0 l0_0.length c0_0]) (t:=26) ?_;intro gb427 hg w3 hbox hb;have BK427:=Aside0.mk (hbox);have GW427:=Aside0.mk ((gV hg (uB HB)));have GE427:=GW427;replace HB:=Aside0.mk (Qa (uB HB) hb);clear hb hbox hg;have hcz4_0:=bC BK427;have hfz4_0:=Qf BK427.out 0)|(refine gA (some 7) Tryz.func281 #[.agg #[.slice A0_0 l0_0.length c0_0]] ?_;(with_reducible refine (Qcl.calls k _ _ l0_0 t428 t429 _ (uD HR0_0 HB) HC0_0.out A2.out).mono ?_);rintro e w5 ⟨rfl,hb⟩;refine ⟨_,rfl,?_⟩;replace BK427:=Aside0.mk (Qc (uK BK427) hb);replace HB:=Aside0.mk (Qa (uB HB) hb);(try clear hb)))
 go_ret
 exact ⟨by first|rfl|(simp [Qd,Qe] <;>rfl)|(simp [*,Qd,Qe] <;>rfl),uB HB⟩
def Qda.f (l0_0 : List Int) : Option (Int) := (Qcx.f l0_0).bind fun t431 => (if 0 ≤ t431 then (some (wrap64 ((shl .i64 1 t431) - 1))) else (none))
set_option maxHeartbeats 8000000 in
set_option maxRecDepth 100000 in
theorem Qda.calls (A0_0 : Option Addr) (c0_0 : Nat) (l0_0 : List Int) (r : Int) (w : World) (hr0_0 : Kd.C (Kd.int .i64) w A0_0 l0_0.length l0_0) (hc0_0 : l0_0.length ≤ c0_0) (h : Qda.f l0_0 = some r) :
 Calls Tryz.prog 290 #[.agg #[.slice A0_0 l0_0.length c0_0]] w fun e w'=>e= .returned (.int .i64 r)∧Below w.heap.size w w':=by
 have hu26:=Tryz.underlying26;have HR0_0:=Aside0.mk hr0_0;have HC0_0:=Aside0.mk hc0_0;clear hr0_0 hc0_0;have HB:=Aside0.mk (Below.refl w.heap.size w);have H:((Qcx.f l0_0).bind fun t431=>(if 0≤t431 then (some (wrap64 ((shl .i64 1 t431) - 1))) else (none)))=some r:=h;clear h;obtain ⟨t431,A2,H⟩:=bs H;(try dsimp only at H)
 by_cases c3:0≤t431
 ·
  rw [if_pos c3] at H;have c3b0:=eq_true c3;have c3b1:=decide_eq_true c3;clear c3;obtain ⟨ji4,hji4⟩: ∃ j_:Int,(shl .i64 1 t431)=j_:=⟨_,rfl⟩
  replace H:(some (wrap64 ((ji4) - 1)))=some r:=by first|(rw [hji4] at H;exact H)|(simp only [hji4] at H ⊢;exact H)
  (try rw [hji4] at A2)
  have hji4_:(IntKind.i64.wrap (1*2 ^ min t431.toNat 64))=ji4:=hji4;have hji4z:t431≤64→(IntKind.i64.wrap (1*2 ^ t431.toNat))=ji4:=Qd1 hji4;have hji4u:(IntKind.i64.wrap (2 ^ min t431.toNat 64))=ji4:=by have h_:=hji4_;rw [Int.one_mul] at h_;exact h_
  have hji4v:t431≤64→(IntKind.i64.wrap (2 ^ t431.toNat))=ji4:=fun hle_=>by have h_:=hji4z hle_;rw [Int.one_mul] at h_;exact h_
  have hji4y:(wrap64 (1*2 ^ min t431.toNat 64))=ji4:=(Qcu _).symm.trans hji4_;have hji4x:t431≤64→(wrap64 (1*2 ^ t431.toNat))=ji4:=fun h_=>(Qcu _).symm.trans (hji4z h_)
  obtain rfl:=Option.some.inj H;go_enter Tryz.func290,Tryz.ntmps290;go_wp2_with (first|(refine bE (N:=1) (cs:= #[.slice A0_0 l0_0.length c0_0]) (t:=26) ?_;intro gb430 hg w5 hbox hb;have BK430:=Aside0.mk (hbox);have GW430:=Aside0.mk ((gV hg (uB HB)));have GE430:=GW430;replace HB:=Aside0.mk (Qa (uB HB) hb);clear hb hbox hg;have hcz6_0:=bC BK430;have hfz6_0:=Qf BK430.out 0)|(refine gA (some 4) Tryz.func244 #[.agg #[.slice A0_0 l0_0.length c0_0]] ?_;(with_reducible refine (Qcx.calls _ _ l0_0 t431 _ (uD HR0_0 HB) HC0_0.out A2.out).mono ?_);rintro e w7 ⟨rfl,hb⟩;refine ⟨_,rfl,?_⟩;replace BK430:=Aside0.mk (Qc (uK BK430) hb);replace HB:=Aside0.mk (Qa (uB HB) hb);(try clear hb)))
  go_ret
  exact ⟨by first|rfl|(simp [Qd,Qe] <;>rfl)|(simp only [←hji4];first|rfl|(simp [Qd,Qe] <;>rfl))|(simp [*,Qd,Qe] <;>rfl),uB HB⟩
 ·
  rw [if_neg c3] at H;exact absurd H (by simp)
def Qdz.f (k : Nat) (l0_0 : List Int) (a1 : Int) : Option (Bool) := (Qbp.f k l0_0).bind fun t433 => (if t433 = true then ((Qda.f l0_0).bind fun t434 => ((Qc9.f a1 0 t434).bind fun t435 => (some t435))) else (some false))
theorem Qdz.mono : ∀ a0 a1 k, LeO (Qdz.f k a0 a1) (Qdz.f (k + 1) a0 a1) := by
 intro a0 a1 k;unfold Qdz.f
 repeat' (with_reducible first|apply Qbp.mono|exact LeO.refl _|exact LeO.none _|refine LeO.ite ?_ ?_|refine LeO.bind ?_ (fun _=> ?_))
set_option maxHeartbeats 8000000 in
set_option maxRecDepth 100000 in
theorem Qdz.calls (k : Nat) (A0_0 : Option Addr) (c0_0 : Nat) (l0_0 : List Int) (a1 : Int) (r : Bool) (w : World) (hr0_0 : Kd.C (Kd.int .i64) w A0_0 l0_0.length l0_0) (hc0_0 : l0_0.length ≤ c0_0) (h : Qdz.f k l0_0 a1 = some r) :
 Calls Tryz.prog 197 #[.agg #[.slice A0_0 l0_0.length c0_0], .int .i64 a1] w fun e w'=>e= .returned (.bool r)∧Below w.heap.size w w':=by
 have hu26:=Tryz.underlying26;have HR0_0:=Aside0.mk hr0_0;have HC0_0:=Aside0.mk hc0_0;clear hr0_0 hc0_0;have HB:=Aside0.mk (Below.refl w.heap.size w);have H:((Qbp.f k l0_0).bind fun t433=>(if t433=true then ((Qda.f l0_0).bind fun t434=>((Qc9.f a1 0 t434).bind fun t435=>(some t435))) else (some false)))=some r:=h;clear h;obtain ⟨t433,A3,H⟩:=bs H;(try dsimp only at H)
 by_cases c4:t433=true
 ·
  subst c4;rw [if_pos rfl] at H;obtain ⟨t434,A5,H⟩:=bs H;(try dsimp only at H)
  obtain ⟨t435,A6,H⟩:=bs H;(try dsimp only at H)
  obtain rfl:=Option.some.inj H;go_enter Tryz.func197,Tryz.ntmps197;go_wp2_with (first|(refine bE (N:=2) (cs:= #[.slice A0_0 l0_0.length c0_0]) (t:=26) ?_;intro gb432 hg w7 hbox hb;have BK432:=Aside0.mk (hbox);have GW432:=Aside0.mk ((gV hg (uB HB)));have GE432:=GW432;replace HB:=Aside0.mk (Qa (uB HB) hb);clear hb hbox hg;have hcz8_0:=bC BK432;have hfz8_0:=Qf BK432.out 0)|(refine gA (some 6) Tryz.func178 #[.agg #[.slice A0_0 l0_0.length c0_0]] ?_;(with_reducible refine (Qbp.calls k _ _ l0_0 true _ (uD HR0_0 HB) HC0_0.out A3.out).mono ?_);rintro e w9 ⟨rfl,hb⟩;refine ⟨_,rfl,?_⟩;replace BK432:=Aside0.mk (Qc (uK BK432) hb);replace HB:=Aside0.mk (Qa (uB HB) hb);(try clear hb);have hcz10_0:=bC BK432;have hfz10_0:=Qf BK432.out 0)|(go_at_call 290;(with_reducible refine (Qda.calls _ _ l0_0 t434 _ (uD HR0_0 HB) HC0_0.out A5.out).mono ?_);rintro e w11 ⟨rfl,hb⟩;replace BK432:=Aside0.mk (Qc (uK BK432) hb);replace HB:=Aside0.mk (Qa (uB HB) hb);(try clear hb))|(go_at_call 159;(with_reducible refine (Qc9.calls a1 0 t434 t435 _ A6.out).mono ?_);rintro e w' ⟨rfl,⟨nd,rfl⟩⟩))
  go_ret
  exact ⟨by first|rfl|(simp [Qd,Qe] <;>rfl)|(simp [*,Qd,Qe] <;>rfl),uB HB⟩
 ·
  replace c4:=Bool.eq_false_iff.mpr c4;subst c4;rw [if_neg (show ¬ (false=true) by decide)] at H;obtain rfl:=Option.some.inj H;go_enter Tryz.func197,Tryz.ntmps197;go_wp2_with (first|(refine bE (N:=2) (cs:= #[.slice A0_0 l0_0.length c0_0]) (t:=26) ?_;intro gb432 hg w12 hbox hb;have BK432:=Aside0.mk (hbox);have GW432:=Aside0.mk ((gV hg (uB HB)));have GE432:=GW432;replace HB:=Aside0.mk (Qa (uB HB) hb);clear hb hbox hg;have hcz13_0:=bC BK432;have hfz13_0:=Qf BK432.out 0)|(refine gA (some 6) Tryz.func178 #[.agg #[.slice A0_0 l0_0.length c0_0]] ?_;(with_reducible refine (Qbp.calls k _ _ l0_0 false _ (uD HR0_0 HB) HC0_0.out A3.out).mono ?_);rintro e w14 ⟨rfl,hb⟩;refine ⟨_,rfl,?_⟩;replace BK432:=Aside0.mk (Qc (uK BK432) hb);replace HB:=Aside0.mk (Qa (uB HB) hb);(try clear hb)))
  go_ret
  exact ⟨by first|rfl|(simp [Qd,Qe] <;>rfl)|(simp [*,Qd,Qe] <;>rfl),uB HB⟩
def Qbe.l0 : Nat → Int → List Int → Int → Int → List Int → Option (Int)
 |0,_,_,_,_,_=>none
 |k+1,x5,x10,x11,x12,x437000=>if x12<x11 then (if 0≤x12 then (if x12<(x10.length:Int) then (if 0≤(rd x10 x12) then (if (rd x10 x12)<(x437000.length:Int) then (Qbe.l0 k (Go.bits .or .i64 x5 (rd x437000 (rd x10 x12))) x10 x11 (wrap64 (x12+1)) x437000) else (none)) else (none)) else (none)) else (none)) else (some x5)
def Qbe.f (k : Nat) (l0_0 : List Int) (a1 : Int) : Option (Int) := (Qbn.f k a1).bind fun t437 => (Qbe.l0 k a1 t437 (t437.length : Int) 0 l0_0)
theorem Qbe.mono_l : ∀ k, (∀ y0 y1 y2 y3 y4, LeO (Qbe.l0 k y0 y1 y2 y3 y4) (Qbe.l0 (k + 1) y0 y1 y2 y3 y4))
 |0=>fun _ _ _ _ _ r h=>by simp [Qbe.l0] at h
 |k+1=>by
  have ih0:=Qbe.mono_l k
  ·
   intro y0 y1 y2 y3 y4;unfold Qbe.l0
   repeat' first
   |(with_reducible exact ih0 _ _ _ _ _)
   |(with_reducible exact Qbn.mono _ _)
   |(with_reducible exact LeO.refl _)
   |(with_reducible exact LeO.none _)
   |(with_reducible refine LeO.ite ?_ ?_)
   |(with_reducible refine LeO.bind ?_ (fun _=> ?_))
   |exact ih0 _ _ _ _ _
   |exact Qbn.mono _ _
   |exact LeO.none _
   |refine LeO.ite ?_ ?_
   |refine LeO.bind ?_ (fun _=> ?_)
theorem Qbe.mono : ∀ a0 a1 k, LeO (Qbe.f k a0 a1) (Qbe.f (k + 1) a0 a1) := by
 intro a0 a1 k;have ih0:=Qbe.mono_l k;unfold Qbe.f
 repeat' (with_reducible first|apply ih0|apply Qbn.mono|exact LeO.refl _|exact LeO.none _|refine LeO.ite ?_ ?_|refine LeO.bind ?_ (fun _=> ?_))
set_option maxHeartbeats 8000000 in
set_option maxRecDepth 100000 in
theorem Qbe.calls (k : Nat) (A0_0 : Option Addr) (c0_0 : Nat) (l0_0 : List Int) (a1 : Int) (r : Int) (w : World) (hr0_0 : Kd.C (Kd.int .i64) w A0_0 l0_0.length l0_0) (hc0_0 : l0_0.length ≤ c0_0) (h : Qbe.f k l0_0 a1 = some r) :
 Calls Tryz.prog 283 #[.agg #[.slice A0_0 l0_0.length c0_0], .int .i64 a1] w fun e w'=>e= .returned (.int .i64 r)∧Below w.heap.size w w':=by
 have hu26:=Tryz.underlying26;have HR0_0:=Aside0.mk hr0_0;have HC0_0:=Aside0.mk hc0_0;clear hr0_0 hc0_0;have HB:=Aside0.mk (Below.refl w.heap.size w);have H:((Qbn.f k a1).bind fun t437=>(Qbe.l0 k a1 t437 (t437.length:Int) 0 l0_0))=some r:=h;clear h;obtain ⟨t437,A3,H⟩:=bs H;(try dsimp only at H)
 have H':=Aside0.mk H;clear H;go_enter Tryz.func283,Tryz.ntmps283;go_wp2_with (first|(refine bE (N:=2) (cs:= #[.slice A0_0 l0_0.length c0_0]) (t:=26) ?_;intro gb436 hg w4 hbox hb;have BK436:=Aside0.mk (hbox);have GW436:=Aside0.mk ((gV hg (uB HB)));have GE436:=GW436;replace HB:=Aside0.mk (Qa (uB HB) hb);clear hb hbox hg)|(refine gA (some 10) Tryz.func277 #[.int .i64 a1] ?_;(with_reducible refine (Qbn.calls k a1 t437 _ A3.out).mono ?_);rintro e w5 ⟨v438,rfl,ho0,hb⟩;refine ⟨_,rfl,?_⟩;have HO439:=Aside0.mk (Kd.R_lower ho0 (Qp (uB HB)));replace BK436:=Aside0.mk (Qc (uK BK436) hb);replace HB:=Aside0.mk (Qa (uB HB) hb);(try clear hb ho0);obtain ⟨Ao6,co6,eo6⟩:=Kd.R_slice HO439.out;subst eo6))
 go_loopg [5,12] k (fun kq v5 v12 w'=> ∃ (x5_1:Int) (x12_1:Int),v5= .int .i64 x5_1∧v12= .int .i64 x12_1∧Aside0 (Qbe.l0 kq x5_1 t437 (t437.length:Int) x12_1 l0_0=some r)∧Aside0 (kq≤k)∧Aside0 (Kd.R (Kd.int .i64) 3 w' w.heap.size (fun _=>True) (.slice Ao6 t437.length co6) t437)∧Aside0 (w'.heap[gb436]? =some (.cells #[(.slice A0_0 l0_0.length c0_0)] 26 (0,0)))∧Aside0 (Below w.heap.size w w'))
 case atStart=>exact ⟨(a1),(0),(by first|rfl|(simp;done)|(simp [*];done)),(by first|rfl|(simp;done)|(simp [*];done)),H',⟨Nat.le_refl _⟩,⟨uR HO439⟩,⟨uK BK436⟩,⟨uB HB⟩⟩
 case round=>
  clear H'
  try clear c2
  try clear p2
  obtain ⟨x5_1,x12_1,rfl,rfl,HA,HK1,HO_10,BK436,HB⟩:=hrel;cases gk with
  |zero=>exact absurd HA.out (by simp [Qbe.l0])
  |succ k1=>
   have H:=HA.out;clear HA;simp only [Qbe.l0] at H
   by_cases c7:x12_1<(t437.length:Int)
   ·
    rw [if_pos c7] at H;have c7b0:=decide_eq_true c7;clear c7
    by_cases c8:0≤x12_1
    ·
     rw [if_pos c8] at H;have c8b0:=decide_eq_true c8;clear c8
     by_cases c9:x12_1<(t437.length:Int)
     ·
      rw [if_pos c9] at H;have c9b0:=decide_eq_true c9;clear c9
      by_cases c10:0≤(rd t437 x12_1)
      ·
       rw [if_pos c10] at H;have c10b0:=decide_eq_true c10;clear c10
       by_cases c11:(rd t437 x12_1)<(l0_0.length:Int)
       ·
        rw [if_pos c11] at H;have c11b0:=decide_eq_true c11;clear c11;have H':=Aside0.mk H;clear H;have p440:0≤(x12_1:Int):=of_decide_eq_true (by first|(with_reducible assumption)|assumption);have q440:x12_1<(t437.length:Int):=of_decide_eq_true (by first|(with_reducible assumption)|assumption);obtain ⟨ad440,e440,hx440_0⟩:=Kd.at_int (Kd.R_reads' HO_10.out).2.2 x12_1 p440 q440;cases e440;replace p440:=eq_true p440;replace q440:=eq_true q440;have hcz12_0:=bC BK436;have hfz12_0:=Qf BK436.out 0;have p441:0≤((rd t437 x12_1):Int):=of_decide_eq_true (by first|(with_reducible assumption)|assumption);have q441:(rd t437 x12_1)<(l0_0.length:Int):=of_decide_eq_true (by first|(with_reducible assumption)|assumption);obtain ⟨ad441,e441,hx441_0⟩:=Kd.at_int HR0_0.out (rd t437 x12_1) p441 q441;cases e441;replace hx441_0:=(HB.out.cell (World.block_lt_of_cell? w _ hx441_0)).trans hx441_0;replace p441:=eq_true p441;replace q441:=eq_true q441;go_wp2;go_roundg k1
        case measure=>have:=HK1.out;omega
        case rel=>exact ⟨(Go.bits .or .i64 x5_1 (rd l0_0 (rd t437 x12_1))),(wrap64 (x12_1+1)),(by first|rfl|(simp;done)|(simp [*];done)),(by first|rfl|(simp;done)|(simp [*];done)),H',⟨by have:=HK1.out;omega⟩,⟨uR HO_10⟩,⟨uK BK436⟩,⟨uB HB⟩⟩
       ·
        rw [if_neg c11] at H;exact absurd H (by simp)
      ·
       rw [if_neg c10] at H;exact absurd H (by simp)
     ·
      rw [if_neg c9] at H;exact absurd H (by simp)
    ·
     rw [if_neg c8] at H;exact absurd H (by simp)
   ·
    rw [if_neg c7] at H;have c7b0:=decide_eq_false c7;clear c7;obtain rfl:=Option.some.inj H;go_wp2
    go_ret
    exact ⟨by first|rfl|(simp [Qd,Qe] <;>rfl)|(simp [*,Qd,Qe] <;>rfl),uB HB⟩
def Qcr.f (k : Nat) (l0_0 : List Int) (a1 : Int) : Option (Bool) := (Qdz.f k l0_0 a1).bind fun t443 => (if t443 = true then ((Qbe.f k l0_0 a1).bind fun t444 => (some (t444 == a1))) else (some false))
theorem Qcr.mono : ∀ a0 a1 k, LeO (Qcr.f k a0 a1) (Qcr.f (k + 1) a0 a1) := by
 intro a0 a1 k;unfold Qcr.f
 repeat' (with_reducible first|apply Qbe.mono|apply Qdz.mono|exact LeO.refl _|exact LeO.none _|refine LeO.ite ?_ ?_|refine LeO.bind ?_ (fun _=> ?_))
set_option maxHeartbeats 8000000 in
set_option maxRecDepth 100000 in
theorem Qcr.calls (k : Nat) (A0_0 : Option Addr) (c0_0 : Nat) (l0_0 : List Int) (a1 : Int) (r : Bool) (w : World) (hr0_0 : Kd.C (Kd.int .i64) w A0_0 l0_0.length l0_0) (hc0_0 : l0_0.length ≤ c0_0) (h : Qcr.f k l0_0 a1 = some r) :
 Calls Tryz.prog 158 #[.agg #[.slice A0_0 l0_0.length c0_0], .int .i64 a1] w fun e w'=>e= .returned (.bool r)∧Below w.heap.size w w':=by
 have hu26:=Tryz.underlying26;have HR0_0:=Aside0.mk hr0_0;have HC0_0:=Aside0.mk hc0_0;clear hr0_0 hc0_0;have HB:=Aside0.mk (Below.refl w.heap.size w);have H:((Qdz.f k l0_0 a1).bind fun t443=>(if t443=true then ((Qbe.f k l0_0 a1).bind fun t444=>(some (t444==a1))) else (some false)))=some r:=h;clear h;obtain ⟨t443,A3,H⟩:=bs H;(try dsimp only at H)
 by_cases c4:t443=true
 ·
  subst c4;rw [if_pos rfl] at H;obtain ⟨t444,A5,H⟩:=bs H;(try dsimp only at H)
  obtain rfl:=Option.some.inj H;go_enter Tryz.func158,Tryz.ntmps158;go_wp2_with (first|(refine bE (N:=2) (cs:= #[.slice A0_0 l0_0.length c0_0]) (t:=26) ?_;intro gb442 hg w6 hbox hb;have BK442:=Aside0.mk (hbox);have GW442:=Aside0.mk ((gV hg (uB HB)));have GE442:=GW442;replace HB:=Aside0.mk (Qa (uB HB) hb);clear hb hbox hg;have hcz7_0:=bC BK442;have hfz7_0:=Qf BK442.out 0)|(refine gA (some 7) Tryz.func197 #[.agg #[.slice A0_0 l0_0.length c0_0], .int .i64 a1] ?_;(with_reducible refine (Qdz.calls k _ _ l0_0 a1 true _ (uD HR0_0 HB) HC0_0.out A3.out).mono ?_);rintro e w8 ⟨rfl,hb⟩;refine ⟨_,rfl,?_⟩;replace BK442:=Aside0.mk (Qc (uK BK442) hb);replace HB:=Aside0.mk (Qa (uB HB) hb);(try clear hb);have hcz9_0:=bC BK442;have hfz9_0:=Qf BK442.out 0)|(go_at_call 283;(with_reducible refine (Qbe.calls k _ _ l0_0 a1 t444 _ (uD HR0_0 HB) HC0_0.out A5.out).mono ?_);rintro e w10 ⟨rfl,hb⟩;replace BK442:=Aside0.mk (Qc (uK BK442) hb);replace HB:=Aside0.mk (Qa (uB HB) hb);(try clear hb)))
  go_ret
  exact ⟨by first|rfl|(simp [Qd,Qe] <;>rfl)|(simp [*,Qd,Qe] <;>rfl),uB HB⟩
 ·
  replace c4:=Bool.eq_false_iff.mpr c4;subst c4;rw [if_neg (show ¬ (false=true) by decide)] at H;obtain rfl:=Option.some.inj H;go_enter Tryz.func158,Tryz.ntmps158;go_wp2_with (first|(refine bE (N:=2) (cs:= #[.slice A0_0 l0_0.length c0_0]) (t:=26) ?_;intro gb442 hg w11 hbox hb;have BK442:=Aside0.mk (hbox);have GW442:=Aside0.mk ((gV hg (uB HB)));have GE442:=GW442;replace HB:=Aside0.mk (Qa (uB HB) hb);clear hb hbox hg;have hcz12_0:=bC BK442;have hfz12_0:=Qf BK442.out 0)|(refine gA (some 7) Tryz.func197 #[.agg #[.slice A0_0 l0_0.length c0_0], .int .i64 a1] ?_;(with_reducible refine (Qdz.calls k _ _ l0_0 a1 false _ (uD HR0_0 HB) HC0_0.out A3.out).mono ?_);rintro e w13 ⟨rfl,hb⟩;refine ⟨_,rfl,?_⟩;replace BK442:=Aside0.mk (Qc (uK BK442) hb);replace HB:=Aside0.mk (Qa (uB HB) hb);(try clear hb)))
  go_ret
  exact ⟨by first|rfl|(simp [Qd,Qe] <;>rfl)|(simp [*,Qd,Qe] <;>rfl),uB HB⟩
def Qb6.f (k : Nat) (l0_0 : List Int) (a1 : Int) : Option (Bool) := (Qcr.f k l0_0 a1).bind fun t446 => (if t446 = true then ((Qcp.f k l0_0).bind fun t447 => (some t447)) else (some false))
theorem Qb6.mono : ∀ a0 a1 k, LeO (Qb6.f k a0 a1) (Qb6.f (k + 1) a0 a1) := by
 intro a0 a1 k;unfold Qb6.f
 repeat' (with_reducible first|apply Qcr.mono|apply Qcp.mono|exact LeO.refl _|exact LeO.none _|refine LeO.ite ?_ ?_|refine LeO.bind ?_ (fun _=> ?_))
set_option maxHeartbeats 8000000 in
set_option maxRecDepth 100000 in
theorem Qb6.calls (k : Nat) (A0_0 : Option Addr) (c0_0 : Nat) (l0_0 : List Int) (a1 : Int) (r : Bool) (w : World) (hr0_0 : Kd.C (Kd.int .i64) w A0_0 l0_0.length l0_0) (hc0_0 : l0_0.length ≤ c0_0) (h : Qb6.f k l0_0 a1 = some r) :
 Calls Tryz.prog 148 #[.agg #[.slice A0_0 l0_0.length c0_0], .int .i64 a1] w fun e w'=>e= .returned (.bool r)∧Below w.heap.size w w':=by
 have hu26:=Tryz.underlying26;have HR0_0:=Aside0.mk hr0_0;have HC0_0:=Aside0.mk hc0_0;clear hr0_0 hc0_0;have HB:=Aside0.mk (Below.refl w.heap.size w);have H:((Qcr.f k l0_0 a1).bind fun t446=>(if t446=true then ((Qcp.f k l0_0).bind fun t447=>(some t447)) else (some false)))=some r:=h;clear h;obtain ⟨t446,A3,H⟩:=bs H;(try dsimp only at H)
 by_cases c4:t446=true
 ·
  subst c4;rw [if_pos rfl] at H;obtain ⟨t447,A5,H⟩:=bs H;(try dsimp only at H)
  obtain rfl:=Option.some.inj H;go_enter Tryz.func148,Tryz.ntmps148;go_wp2_with (first|(refine bE (N:=2) (cs:= #[.slice A0_0 l0_0.length c0_0]) (t:=26) ?_;intro gb445 hg w6 hbox hb;have BK445:=Aside0.mk (hbox);have GW445:=Aside0.mk ((gV hg (uB HB)));have GE445:=GW445;replace HB:=Aside0.mk (Qa (uB HB) hb);clear hb hbox hg;have hcz7_0:=bC BK445;have hfz7_0:=Qf BK445.out 0)|(refine gA (some 7) Tryz.func158 #[.agg #[.slice A0_0 l0_0.length c0_0], .int .i64 a1] ?_;(with_reducible refine (Qcr.calls k _ _ l0_0 a1 true _ (uD HR0_0 HB) HC0_0.out A3.out).mono ?_);rintro e w8 ⟨rfl,hb⟩;refine ⟨_,rfl,?_⟩;replace BK445:=Aside0.mk (Qc (uK BK445) hb);replace HB:=Aside0.mk (Qa (uB HB) hb);(try clear hb);have hcz9_0:=bC BK445;have hfz9_0:=Qf BK445.out 0)|(go_at_call 156;(with_reducible refine (Qcp.calls k _ _ l0_0 t447 _ (uD HR0_0 HB) HC0_0.out A5.out).mono ?_);rintro e w10 ⟨rfl,hb⟩;replace BK445:=Aside0.mk (Qc (uK BK445) hb);replace HB:=Aside0.mk (Qa (uB HB) hb);(try clear hb)))
  go_ret
  exact ⟨by first|rfl|(simp [Qd,Qe] <;>rfl)|(simp [*,Qd,Qe] <;>rfl),uB HB⟩
 ·
  replace c4:=Bool.eq_false_iff.mpr c4;subst c4;rw [if_neg (show ¬ (false=true) by decide)] at H;obtain rfl:=Option.some.inj H;go_enter Tryz.func148,Tryz.ntmps148;go_wp2_with (first|(refine bE (N:=2) (cs:= #[.slice A0_0 l0_0.length c0_0]) (t:=26) ?_;intro gb445 hg w11 hbox hb;have BK445:=Aside0.mk (hbox);have GW445:=Aside0.mk ((gV hg (uB HB)));have GE445:=GW445;replace HB:=Aside0.mk (Qa (uB HB) hb);clear hb hbox hg;have hcz12_0:=bC BK445;have hfz12_0:=Qf BK445.out 0)|(refine gA (some 7) Tryz.func158 #[.agg #[.slice A0_0 l0_0.length c0_0], .int .i64 a1] ?_;(with_reducible refine (Qcr.calls k _ _ l0_0 a1 false _ (uD HR0_0 HB) HC0_0.out A3.out).mono ?_);rintro e w13 ⟨rfl,hb⟩;refine ⟨_,rfl,?_⟩;replace BK445:=Aside0.mk (Qc (uK BK445) hb);replace HB:=Aside0.mk (Qa (uB HB) hb);(try clear hb)))
  go_ret
  exact ⟨by first|rfl|(simp [Qd,Qe] <;>rfl)|(simp [*,Qd,Qe] <;>rfl),uB HB⟩
end Go.Proofs.YtkgngggppcmpfaaGreat.L
end
section
namespace Go.Proofs.YtkgngggppcmpfaaGreat.L
open Go.RowKit Go.Proofs.YtkgngggppcmpfaaGreatW.PrintWords Go.Proofs.YtkgngggppcmpfaaGreatW.PrintLast Go.Proofs.YtkgngggppcmpfaaGreatW.PrintMore
attribute [local go_sem] Qt Qv Q2 Q3 Qm Qn Qu Qw
set_option linter.unusedVariables false
set_option linter.unusedSimpArgs false
def Qcb.g (l : List Int) : Int := (l.drop 1).foldl (fun m x => mx m x) (rd l 0)
def Qcb.acc (l : List Int) (k : Nat) : Int := ((l.take k).drop 1).foldl (fun m x => mx m x) (rd l 0)
theorem Qcb.acc_all (l : List Int) {k : Nat} (h : l.length ≤ k) : Qcb.acc l k = Qcb.g l := by unfold Qcb.acc Qcb.g; rw [List.take_of_length_le h]
def Qcb.f (l0 : List Int) : Option Int := if 0 < l0.length ∧ l0.length ≤ 9223372036854775806 then some (Qcb.g l0) else none
set_option maxHeartbeats 800000 in
set_option maxRecDepth 100000 in
theorem Qcb.calls (A0 : Option Addr) (c0 : Nat) (l0 : List Int) (r : Int) (w : World) (hr0 : Kd.C (Kd.int .i64) w A0 l0.length l0) (hc0 : l0.length ≤ c0) (h : Qcb.f l0 = some r) :
 Calls Tryz.prog 282 #[.slice A0 l0.length c0] w fun e w'=>e= .returned (.int .i64 r)∧Drawn0 w w':=by
 unfold Qcb.f at h
 split at h
 ·
  rename_i hl;obtain ⟨hp,hl⟩:=hl;obtain rfl:=Option.some.inj h;have HR:=Aside0.mk hr0;clear h hr0 hc0;obtain ⟨ad,e1,hx⟩:=Kd.at_int HR.out 0 (by omega) (by omega);cases e1;have hx0:w.cell? ad=some (.int .i64 (rd l0 0)):=by simpa [Addr.add] using hx
  have q0:(0:Int)<(l0.length:Int):=by omega
  have q1: ¬ ((l0.length:Int)<1):=by omega
  clear hx;go_enter Tryz.func282,Tryz.ntmps282;go_wp2
  go_loop [3,4] (fun v3 v4=> ∃ k:Nat,1≤k∧k≤l0.length∧v4= .int .i64 k∧v3= .int .i64 (Qcb.acc l0 k)) (fun _ v4=>l0.length - (intOf v4).toNat)
  case atStart=>exact ⟨1,Nat.le_refl _,hp,rfl,by cases l0 with|nil=>simp at hp|cons x t=>simp [Qcb.acc]⟩
  case round=>
   obtain ⟨k,hk1,hk,rfl,rfl⟩:=hrel
   by_cases hlt:k<l0.length
   ·
    have hs:=Aside0.mk (show Qcb.acc l0 (k+1)=mx (Qcb.acc l0 k) (rd l0 (k:Int)) by
     unfold Qcb.acc;rw [List.take_succ_eq_append_getElem hlt,List.drop_append_of_le_length (by rw [List.length_take];omega),List.foldl_append];simp [rd,List.getD_eq_getElem?_getD,hlt])
    have p1:0≤((k:Nat):Int):=by omega
    have q2:((k:Nat):Int)<(l0.length:Int):=by omega
    obtain ⟨ad',e1,hx⟩:=Kd.at_int HR.out k p1 q2;rw [Int.toNat_natCast] at hx;cases e1;go_wp2
    go_round
    case rel=>exact ⟨k+1,by omega,by omega,by go_num,by rw [hs.out];rfl⟩
    case measure=>simp [intOf];omega
   ·
    go_wp2
    go_ret
    exact ⟨by rw [←Qcb.acc_all l0 (show l0.length≤k by omega)];rfl,Drawn0.refl _⟩
 ·
  exact absurd h (by simp)
end Go.Proofs.YtkgngggppcmpfaaGreat.L
end
section
namespace Go.Proofs.YtkgngggppcmpfaaGreat.L
open Go.RowKit Go.Proofs.YtkgngggppcmpfaaGreatW.PrintWords Go.Proofs.YtkgngggppcmpfaaGreatW.PrintLast Go.Proofs.YtkgngggppcmpfaaGreatW.PrintMore Go.Proofs.YtkgngggppcmpfaaGreat.X
attribute [local go_sem] Qt Qv Q2 Q3 Qm Qn Qu Qw
set_option linter.unusedVariables false
set_option linter.unusedSimpArgs false
def Q6.l0 : Nat → List Int → List Int → Int → Int → Option (List Int)
 |0,_,_,_,_=>none
 |k+1,x4,x13,x14,x15=>if x15<x14 then (if 0≤x15 then (if x15<(x13.length:Int) then (if 0≤(rd x13 x15) then (if (rd x13 x15)<(x4.length:Int) then (Q6.l0 k (x4.set ((rd x13 x15):Int).toNat (Go.bits .or .i64 (rd x4 (rd x13 x15)) (shl .i64 1 x15))) x13 x14 (wrap64 (x15+1))) else (none)) else (none)) else (none)) else (none)) else (some x4)
def Q6.f (k : Nat) (l0_0 : List Int) : Option (List Int) := (Qs.f k l0_0).bind fun t449 => ((Qcb.f t449).bind fun t452 => (if 0 ≤ (wrap64 (t452 + 1)) then (if (wrap64 (t452 + 1) : Int).toNat ≤ 35184372088832 then (Q6.l0 k (List.replicate (wrap64 (t452 + 1) : Int).toNat 0) t449 (t449.length : Int) 0) else (none)) else (none)))
theorem Q6.mono_l : ∀ k, (∀ y0 y1 y2 y3, LeO (Q6.l0 k y0 y1 y2 y3) (Q6.l0 (k + 1) y0 y1 y2 y3))
 |0=>fun _ _ _ _ r h=>by simp [Q6.l0] at h
 |k+1=>by
  have ih0:=Q6.mono_l k
  ·
   intro y0 y1 y2 y3;unfold Q6.l0
   repeat' first
   |(with_reducible exact ih0 _ _ _ _)
   |(with_reducible exact Qs.mono _ _)
   |(with_reducible exact LeO.refl _)
   |(with_reducible exact LeO.none _)
   |(with_reducible refine LeO.ite ?_ ?_)
   |(with_reducible refine LeO.bind ?_ (fun _=> ?_))
   |exact ih0 _ _ _ _
   |exact Qs.mono _ _
   |exact LeO.none _
   |refine LeO.ite ?_ ?_
   |refine LeO.bind ?_ (fun _=> ?_)
theorem Q6.mono : ∀ a0 k, LeO (Q6.f k a0) (Q6.f (k + 1) a0) := by
 intro a0 k;have ih0:=Q6.mono_l k;unfold Q6.f
 repeat' (with_reducible first|apply ih0|apply Qs.mono|exact LeO.refl _|exact LeO.none _|refine LeO.ite ?_ ?_|refine LeO.bind ?_ (fun _=> ?_))
def Q6.T6 : Bool × List (List Nat × List Nat) := (true, [([], []), ([], []), ([0, 1], [0, 1]), ([2], [2]), ([], []), ([4], [4]), ([3, 5], [3, 5]), ([0, 1, 0, 1, 2, 3, 4, 5, 6], [0, 1]), ([7, 6, 0, 1, 2, 3, 4, 5, 6], [6, 7])])
def Q6.B6 : List Nat := [0, 0, 3, 7, 0, 16, 63, 127, 255]
theorem Q6.tab6 : rtab .any (Qf2 Tryz.f157 6) = Q6.T6 := by kernel_rfl
theorem Q6.bits6 : Qd9 Q6.T6.2 Q6.B6 = true := by kernel_rfl
set_option maxHeartbeats 8000000 in
set_option maxRecDepth 100000 in
theorem Q6.calls (k : Nat) (A0_0 : Option Addr) (c0_0 : Nat) (l0_0 : List Int) (r : List Int) (w : World) (hr0_0 : Kd.C (Kd.int .i64) w A0_0 l0_0.length l0_0) (hc0_0 : l0_0.length ≤ c0_0) (h : Q6.f k l0_0 = some r) :
 Calls Tryz.prog 157 #[.agg #[.slice A0_0 l0_0.length c0_0]] w fun e w'=> ∃ v0_:Value,e= .returned (v0_)∧Kd.R (Kd.int .i64) 3 w' w.heap.size (fun _=>True) v0_ r∧Below w.heap.size w w':=by
 have hu26:=Tryz.underlying26;have HR0_0:=Aside0.mk hr0_0;have HC0_0:=Aside0.mk hc0_0;clear hr0_0 hc0_0;have HB:=Aside0.mk (Below.refl w.heap.size w);have H:((Qs.f k l0_0).bind fun t449=>((Qcb.f t449).bind fun t452=>(if 0≤(wrap64 (t452+1)) then (if (wrap64 (t452+1):Int).toNat≤35184372088832 then (Q6.l0 k (List.replicate (wrap64 (t452+1):Int).toNat 0) t449 (t449.length:Int) 0) else (none)) else (none))))=some r:=h;clear h;obtain ⟨t449,A2,H⟩:=bs H;(try dsimp only at H)
 obtain ⟨t452,A3,H⟩:=bs H;(try dsimp only at H)
 obtain ⟨ji4,hji4⟩: ∃ j_:Int,(wrap64 (t452+1))=j_:=⟨_,rfl⟩
 replace H:(if 0≤(ji4) then (if (ji4:Int).toNat≤35184372088832 then (Q6.l0 k (List.replicate (ji4:Int).toNat 0) t449 (t449.length:Int) 0) else (none)) else (none))=some r:=by first|(rw [hji4] at H;exact H)|(simp only [hji4] at H ⊢;exact H)
 (try rw [hji4] at A2)
 (try rw [hji4] at A3)
 have hji4w:(IntKind.i64.wrap (t452+1))=ji4:=(Qcu _).trans hji4
 by_cases c5:0≤(ji4)
 ·
  rw [if_pos c5] at H;have c5b0:=eq_true c5;have c5b1:=decide_eq_true c5;clear c5
  by_cases c6:(ji4:Int).toNat≤35184372088832
  ·
   rw [if_pos c6] at H;have c6b0:=eq_true c6;have c6b1:=decide_eq_true c6;clear c6;obtain ⟨y453,hy453⟩: ∃ y_:List Int,y_=(List.replicate (ji4:Int).toNat 0):=⟨_,rfl⟩
   replace H:(Q6.l0 k y453 t449 (t449.length:Int) 0)=some r:=by first|(rw [hy453];with_reducible exact H)|(have H2_:=(Option.bind_some _ _).symm.trans H;rw [hy453];with_reducible exact H2_)|(have H2_:=(Option.bind_some _ _).symm.trans H;with_reducible exact H2_)|with_reducible exact H|(rw [hy453];exact H)|exact H
   have Ny453:=Aside0.mk hy453;clear hy453;have H':=Aside0.mk H;clear H;go_enter Tryz.func157,Tryz.ntmps157;go_wp2_with (first|(refine bE (N:=1) (cs:= #[.slice A0_0 l0_0.length c0_0]) (t:=26) ?_;intro gb448 hg w7 hbox hb;have BK448:=Aside0.mk (hbox);have GW448:=Aside0.mk ((gV hg (uB HB)));have GE448:=GW448;replace HB:=Aside0.mk (Qa (uB HB) hb);clear hb hbox hg;have hcz8_0:=bC BK448;have hfz8_0:=Qf BK448.out 0)|(refine gA (some 8) Tryz.func236 #[.agg #[.slice A0_0 l0_0.length c0_0]] ?_;(with_reducible refine (Qs.calls k _ _ l0_0 t449 _ (uD HR0_0 HB) HC0_0.out A2.out).mono ?_);rintro e w9 ⟨v450,rfl,ho0,hb⟩;refine ⟨_,rfl,?_⟩;have HO451:=Aside0.mk (Kd.R_lower ho0 (Qp (uB HB)));replace BK448:=Aside0.mk (Qc (uK BK448) hb);replace HB:=Aside0.mk (Qa (uB HB) hb);(try clear hb ho0);obtain ⟨Ao10,co10,eo10⟩:=Kd.R_slice HO451.out;subst eo10)|(refine gA (some 10) Tryz.func282 #[.slice Ao10 t449.length co10] ?_;(with_reducible refine (Qcb.calls _ _ t449 t452 _ (uE HO451) ?side2 A3.out).mono ?_);(case side2=>exact (Kd.R_reads' HO451.out).2.1);rintro e w' ⟨rfl,⟨nd,rfl⟩⟩;refine ⟨_,rfl,?_⟩)|((with_reducible refine Qc0 (N:=12) rfl ?_);refine Kd.R_make (Kd.int .i64) _ 3 rfl (N:=12) rfl 24 _ _ rfl ji4 rfl rfl Tryz.underlying24 (.int .i64 0) 8 Qfm rfl (by decide) (by omega) 0 (ok:=fun _=>True) (okp:=fun _=>True) rfl (fun _ hk=>hk) trivial (of_decide_eq_true (by first|(with_reducible assumption)|assumption)) (Nat.le_trans (Nat.mul_le_mul_right _ (of_decide_eq_true (by first|(with_reducible assumption)|assumption):ji4.toNat≤35184372088832)) (by omega)) (Below.refl _ _) (Nat.le_refl _) ?_;intro v454 w11 ho12 hb hg_ hnew_;clear hg_ hnew_;(first|rw [←Ny453.out] at ho12|(simp only [Int.reduceToNat] at ho12;rw [←Ny453.out] at ho12));have HO455:=Aside0.mk (Kd.R_lower (Kd.R_new' ho12 (Kd.R_lt (uR HO451))) (Qp (uB HB)));replace HO451:=Aside0.mk (Kd.R_elder' (uR HO451) (Kd.R_base ho12) hb);replace BK448:=Aside0.mk (Qc (uK BK448) hb);replace HB:=Aside0.mk (Qa (uB HB) hb);clear hb ho12))
   go_loopg [15] k (fun kq v15 w'=> ∃ (x4_1:List Int) (x15_1:Int),v15= .int .i64 x15_1∧Aside0 (Q6.l0 kq x4_1 t449 (t449.length:Int) x15_1=some r)∧Aside0 (kq≤k)∧Aside0 (Kd.R (Kd.int .i64) 3 w' w.heap.size (fun k_=>some k_≠((.slice Ao10 t449.length co10):Value).ownBlock) v454 x4_1)∧Aside0 (Kd.R (Kd.int .i64) 3 w' w.heap.size (fun k_=>some k_≠(v454:Value).ownBlock) (.slice Ao10 t449.length co10) t449)∧Aside0 (w'.heap[gb448]? =some (.cells #[(.slice A0_0 l0_0.length c0_0)] 26 (0,0)))∧Aside0 (Below w.heap.size w w'))
   case atStart=>exact ⟨(y453),(0),(by first|rfl|(simp;done)|(simp [*];done)),H',⟨Nat.le_refl _⟩,⟨by (with_reducible repeat (first|apply Kd.R_alloc|apply Kd.R_drewN|apply Kd.R_drew));exact Kd.R_mono HO455.out (fun _ hk=>hk.2)⟩,⟨by (with_reducible repeat (first|apply Kd.R_alloc|apply Kd.R_drewN|apply Kd.R_drew));exact Kd.R_mono HO451.out (fun _ hk=>hk.2)⟩,⟨uK BK448⟩,⟨uB HB⟩⟩
   case round=>
    clear H'
    try clear c1
    try clear c2
    try clear p2
    try clear c5
    try clear c5b0
    try clear c5b1
    try clear c6
    try clear c6b0
    try clear c6b1
    try clear p6
    try clear hcz8_0
    try clear hfz8_0
    obtain ⟨x4_1,x15_1,rfl,HA,HK1,HO_4,HO_13,BK448,HB⟩:=hrel;cases gk with
    |zero=>exact absurd HA.out (by simp [Q6.l0])
    |succ k1=>
     have H:=HA.out;clear HA;simp only [Q6.l0] at H
     by_cases c13:x15_1<(t449.length:Int)
     ·
      rw [if_pos c13] at H;have c13b0:=decide_eq_true c13;clear c13
      by_cases c14:0≤x15_1
      ·
       rw [if_pos c14] at H;have c14b0:=decide_eq_true c14;clear c14
       by_cases c15:x15_1<(t449.length:Int)
       ·
        rw [if_pos c15] at H;have c15b0:=decide_eq_true c15;clear c15
        by_cases c16:0≤(rd t449 x15_1)
        ·
         rw [if_pos c16] at H;have c16b0:=decide_eq_true c16;clear c16
         by_cases c17:(rd t449 x15_1)<(x4_1.length:Int)
         ·
          rw [if_pos c17] at H;have c17b0:=decide_eq_true c17;clear c17;have c18b0:=eq_true (of_decide_eq_true (by first|(with_reducible assumption)|assumption):0≤x15_1);obtain ⟨ji19,hji19⟩: ∃ j_:Int,(shl .i64 1 x15_1)=j_:=⟨_,rfl⟩
          replace H:(Q6.l0 k1 (x4_1.set ((rd t449 x15_1):Int).toNat (Go.bits .or .i64 (rd x4_1 (rd t449 x15_1)) (ji19))) t449 (t449.length:Int) (wrap64 (x15_1+1)))=some r:=by first|(rw [hji19] at H;exact H)|(simp only [hji19] at H ⊢;exact H)
          have hji19_:(IntKind.i64.wrap (1*2 ^ min x15_1.toNat 64))=ji19:=hji19;have hji19z:x15_1≤64→(IntKind.i64.wrap (1*2 ^ x15_1.toNat))=ji19:=Qd1 hji19;have hji19u:(IntKind.i64.wrap (2 ^ min x15_1.toNat 64))=ji19:=by have h_:=hji19_;rw [Int.one_mul] at h_;exact h_
          have hji19v:x15_1≤64→(IntKind.i64.wrap (2 ^ x15_1.toNat))=ji19:=fun hle_=>by have h_:=hji19z hle_;rw [Int.one_mul] at h_;exact h_
          have hji19y:(wrap64 (1*2 ^ min x15_1.toNat 64))=ji19:=(Qcu _).symm.trans hji19_;have hji19x:x15_1≤64→(wrap64 (1*2 ^ x15_1.toNat))=ji19:=fun h_=>(Qcu _).symm.trans (hji19z h_)
          obtain ⟨y458,hy458⟩: ∃ y_:List Int,y_=(x4_1.set ((rd t449 x15_1):Int).toNat (Go.bits .or .i64 (rd x4_1 (rd t449 x15_1)) (ji19))):=⟨_,rfl⟩
          replace H:(Q6.l0 k1 y458 t449 (t449.length:Int) (wrap64 (x15_1+1)))=some r:=by first|(rw [hy458];with_reducible exact H)|(have H2_:=(Option.bind_some _ _).symm.trans H;rw [hy458];with_reducible exact H2_)|(have H2_:=(Option.bind_some _ _).symm.trans H;with_reducible exact H2_)|with_reducible exact H|(rw [hy458];exact H)|exact H
          have Ny458:=Aside0.mk hy458;clear hy458;have H':=Aside0.mk H;clear H;have p456:0≤(x15_1:Int):=of_decide_eq_true (by first|(with_reducible assumption)|assumption);have q456:x15_1<(t449.length:Int):=of_decide_eq_true (by first|(with_reducible assumption)|assumption);obtain ⟨ad456,e456,hx456_0⟩:=Kd.at_int (Kd.R_reads' HO_13.out).2.2 x15_1 p456 q456;cases e456;replace p456:=eq_true p456;replace q456:=eq_true q456
          try go_wp2
          replace HO_4:=Aside0.mk (Kd.R_drew HO_4.out);replace HO_13:=Aside0.mk (Kd.R_drew HO_13.out);replace BK448:=Aside0.mk (Qj BK448.out);replace HB:=Aside0.mk (Qy HB.out);obtain ⟨Ao22,co22,eo22⟩:=Kd.R_slice HO_4.out
          (first|subst eo22|(injection eo22 with f1_ f2_ f3_;have f4_:=f1_.symm;have f5_:=f3_.symm;clear f1_ f2_ f3_;subst f4_;subst f5_))
          have p457:0≤((rd t449 x15_1):Int):=of_decide_eq_true (by first|(with_reducible assumption)|assumption);have q457:(rd t449 x15_1)<(x4_1.length:Int):=of_decide_eq_true (by first|(with_reducible assumption)|assumption);obtain ⟨ad457,e457,hx457_0⟩:=Kd.at_int (Kd.R_reads' HO_4.out).2.2 (rd t449 x15_1) p457 q457;cases e457;replace p457:=eq_true p457;replace q457:=eq_true q457;have p20:0≤((rd t449 x15_1):Int):=of_decide_eq_true (by first|(with_reducible assumption)|assumption);have q20:((rd t449 x15_1):Int)<((x4_1.length:Int):Int):=of_decide_eq_true (by first|(with_reducible assumption)|assumption);obtain ⟨go20,co20,eo20,gb20,gl20,cl20,HG20⟩:=Kd.R_form HO_4.out (by omega)
          (first|cases eo20|(injection eo20 with ea_ en_ ec_;(first|subst ea_|(injection ea_ with ea_;subst ea_));subst ec_;clear en_))
          have GB20:=Aside0.mk gb20;have GG20:=Aside0.mk HG20;clear gb20 gl20 HG20
          (first|simp only [Qe2] at hx457_0|skip)
          obtain ⟨hx20_0,hf20_0⟩:=Kd.R_celln 0 HO_4.out ((rd t449 x15_1):Int) p20 q20;replace p20:=eq_true p20;replace q20:=eq_true q20;have HP23:=Kd.R_putn HO_4.out ((rd t449 x15_1):Int) (Go.bits .or .i64 (rd x4_1 (rd t449 x15_1)) (ji19));rw [←Ny458.out] at HP23;have HQ23:=Aside0.mk HP23;clear HP23;refine sU (n:=9) (S:=fun w'=>w'.cell? ⟨go20,((rd t449 x15_1)).toNat,none⟩=some (.int .i64 (rd x4_1 (rd t449 x15_1)))) (ds:= [8]) (hx457_0) (fun hHeld=> ?_);refine Qeg Q6.tab6 Q6.bits6 (fun HT_ HW_=> ?_);generalize wr.drew=w21 at HO_4 HO_13 BK448 HB GG20 HQ23 hf20_0 hx20_0 hx457_0 hHeld ⊢;refine pU 0 20 ?_;refine pU 1 21 ?_;refine pU 2 22 ?_;refine pU 4 24 ?_;refine pU 5 25 ?_;refine tU 3 23 hHeld ?_;refine pU 6 26 ?_;refine pU 7 27 ?_;refine lU 8 none fun K hK=> ?_
          refine sK ?_;refine hK.out _ _ ?_;clear hK K;refine dU ?_
          try go_wp2
          go_roundg k1
          case measure=>have:=HK1.out;omega
          case rel=>exact ⟨(y458),(wrap64 (x15_1+1)),(by first|rfl|(simp;done)|(simp [*];done)),H',⟨by have:=HK1.out;omega⟩,⟨uR HQ23⟩,⟨by (with_reducible repeat (first|apply Kd.R_alloc|apply Kd.R_drewN|apply Kd.R_drew));exact Kd.R_mono (Kd.R_far (p:=⟨go20,((rd t449 x15_1):Int).toNat,none⟩) (Kd.R_mono HO_13.out (fun k_ hk=>(⟨hk,fun e_=>hk (by rw [e_];rfl)⟩:_∧k_≠go20))) (fun _ hk=>hk.2) (.int .i64 (Go.bits .or .i64 (rd x4_1 (rd t449 x15_1)) (ji19)))) (fun _ hk=>hk.1)⟩,⟨by (with_reducible repeat (first|refine Qk ?_ _|refine Qj ?_|refine Qi ?_ _));refine Qd8 ?_ (by have h_:=Kd.R_ne HO_4.out BK448.out (by decide);intro e_;exact h_ (by rw [e_];rfl)) _;(with_reducible repeat (first|refine Qk ?_ _|refine Qj ?_|refine Qi ?_ _));exact BK448.out⟩,⟨by repeat (first|(with_reducible first|exact HB.out|apply Qo|apply Qq|apply Qy|refine Q4 ?_ GB20.out|refine Q4 ?_ GE448.out)|exact HB.out)⟩⟩
         ·
          rw [if_neg c17] at H;exact absurd H (by simp)
        ·
         rw [if_neg c16] at H;exact absurd H (by simp)
       ·
        rw [if_neg c15] at H;exact absurd H (by simp)
      ·
       rw [if_neg c14] at H;exact absurd H (by simp)
     ·
      rw [if_neg c13] at H;have c13b0:=decide_eq_false c13;clear c13;obtain rfl:=Option.some.inj H;go_wp2
      go_ret
      exact ⟨_,by first|rfl|(simp [Qd,Qe] <;>rfl)|(simp only [←hji4];first|rfl|(simp [Qd,Qe] <;>rfl))|(simp [*,Qd,Qe] <;>rfl),by (with_reducible repeat (first|apply Kd.R_alloc|apply Kd.R_drewN|apply Kd.R_drew));exact Kd.R_mono HO_4.out (fun _ hk=>trivial),uB HB⟩
  ·
   rw [if_neg c6] at H;exact absurd H (by simp)
 ·
  rw [if_neg c5] at H;exact absurd H (by simp)
def Qcz.f (k : Nat) (l0_0 : List Int) (a1 : Int) (a2 : Int) : Option (Int) := if 0 ≤ a2 then ((Qbe.f k l0_0 (Go.bits .xor .i64 a1 (shl .i64 1 a2))).bind fun t460 => (if t460 = (Go.bits .xor .i64 a1 (shl .i64 1 a2)) then (some (Go.bits .xor .i64 a1 (shl .i64 1 a2))) else (some a1))) else (none)
theorem Qcz.mono : ∀ a0 a1 a2 k, LeO (Qcz.f k a0 a1 a2) (Qcz.f (k + 1) a0 a1 a2) := by
 intro a0 a1 a2 k;unfold Qcz.f
 repeat' (with_reducible first|apply Qbe.mono|exact LeO.refl _|exact LeO.none _|refine LeO.ite ?_ ?_|refine LeO.bind ?_ (fun _=> ?_))
set_option maxHeartbeats 8000000 in
set_option maxRecDepth 100000 in
theorem Qcz.calls (k : Nat) (A0_0 : Option Addr) (c0_0 : Nat) (l0_0 : List Int) (a1 : Int) (a2 : Int) (r : Int) (w : World) (hr0_0 : Kd.C (Kd.int .i64) w A0_0 l0_0.length l0_0) (hc0_0 : l0_0.length ≤ c0_0) (h : Qcz.f k l0_0 a1 a2 = some r) :
 Calls Tryz.prog 291 #[.agg #[.slice A0_0 l0_0.length c0_0], .int .i64 a1, .int .i64 a2] w fun e w'=>e= .returned (.int .i64 r)∧Below w.heap.size w w':=by
 have hu26:=Tryz.underlying26;have HR0_0:=Aside0.mk hr0_0;have HC0_0:=Aside0.mk hc0_0;clear hr0_0 hc0_0;have HB:=Aside0.mk (Below.refl w.heap.size w);have H:(if 0≤a2 then ((Qbe.f k l0_0 (Go.bits .xor .i64 a1 (shl .i64 1 a2))).bind fun t460=>(if t460=(Go.bits .xor .i64 a1 (shl .i64 1 a2)) then (some (Go.bits .xor .i64 a1 (shl .i64 1 a2))) else (some a1))) else (none))=some r:=h;clear h
 by_cases c4:0≤a2
 ·
  rw [if_pos c4] at H;have c4b0:=eq_true c4;have c4b1:=decide_eq_true c4;clear c4;obtain ⟨ji5,hji5⟩: ∃ j_:Int,(shl .i64 1 a2)=j_:=⟨_,rfl⟩
  replace H:((Qbe.f k l0_0 (Go.bits .xor .i64 a1 (ji5))).bind fun t460=>(if t460=(Go.bits .xor .i64 a1 (ji5)) then (some (Go.bits .xor .i64 a1 (ji5))) else (some a1)))=some r:=by first|(rw [hji5] at H;exact H)|(simp only [hji5] at H ⊢;exact H)
  have hji5_:(IntKind.i64.wrap (1*2 ^ min a2.toNat 64))=ji5:=hji5;have hji5z:a2≤64→(IntKind.i64.wrap (1*2 ^ a2.toNat))=ji5:=Qd1 hji5;have hji5u:(IntKind.i64.wrap (2 ^ min a2.toNat 64))=ji5:=by have h_:=hji5_;rw [Int.one_mul] at h_;exact h_
  have hji5v:a2≤64→(IntKind.i64.wrap (2 ^ a2.toNat))=ji5:=fun hle_=>by have h_:=hji5z hle_;rw [Int.one_mul] at h_;exact h_
  have hji5y:(wrap64 (1*2 ^ min a2.toNat 64))=ji5:=(Qcu _).symm.trans hji5_;have hji5x:a2≤64→(wrap64 (1*2 ^ a2.toNat))=ji5:=fun h_=>(Qcu _).symm.trans (hji5z h_)
  obtain ⟨t460,A6,H⟩:=bs H;(try dsimp only at H)
  by_cases c7:t460=(Go.bits .xor .i64 a1 (ji5))
  ·
   rw [if_pos c7] at H;have c7b0:(t460==(Go.bits .xor .i64 a1 (ji5)))=true:=beq_iff_eq.mpr c7;have c7b1:(t460 !=(Go.bits .xor .i64 a1 (ji5)))=false:=bne_eq_false_iff_eq.mpr c7;clear c7;obtain rfl:=Option.some.inj H;go_enter Tryz.func291,Tryz.ntmps291;go_wp2_with (first|(refine bE (N:=3) (cs:= #[.slice A0_0 l0_0.length c0_0]) (t:=26) ?_;intro gb459 hg w8 hbox hb;have BK459:=Aside0.mk (hbox);have GW459:=Aside0.mk ((gV hg (uB HB)));have GE459:=GW459;replace HB:=Aside0.mk (Qa (uB HB) hb);clear hb hbox hg;have hcz9_0:=bC BK459;have hfz9_0:=Qf BK459.out 0)|((with_reducible refine Qdp (f:=283) rfl ?_);refine Qeu (some 14) rfl rfl Tryz.func283 (by kernel_rfl) rfl #[.agg #[.slice A0_0 l0_0.length c0_0], .int .i64 (Go.bits .xor .i64 a1 (ji5))] rfl (by (try simp only [List.map_toArray,List.map_cons,List.map_nil]);first|done|(simp only [hji5];rfl)|rfl|(simp only [List.length_drop,List.length_take];rfl)) ?_;(with_reducible refine (Qbe.calls k _ _ l0_0 (Go.bits .xor .i64 a1 (ji5)) t460 _ (uD HR0_0 HB) HC0_0.out A6.out).mono ?_);rintro e w10 ⟨rfl,hb⟩;refine ⟨_,rfl,?_⟩;replace BK459:=Aside0.mk (Qc (uK BK459) hb);replace HB:=Aside0.mk (Qa (uB HB) hb);(try clear hb)))
   go_ret
   exact ⟨by first|rfl|(simp [Qd,Qe] <;>rfl)|(simp only [←hji5];first|rfl|(simp [Qd,Qe] <;>rfl))|(simp [*,Qd,Qe] <;>rfl),uB HB⟩
  ·
   rw [if_neg c7] at H;have c7b0:(t460==(Go.bits .xor .i64 a1 (ji5)))=false:=beq_eq_false_iff_ne.mpr c7;have c7b1:(t460 !=(Go.bits .xor .i64 a1 (ji5)))=true:=bne_iff_ne.mpr c7;obtain rfl:=Option.some.inj H;go_enter Tryz.func291,Tryz.ntmps291;go_wp2_with (first|(refine bE (N:=3) (cs:= #[.slice A0_0 l0_0.length c0_0]) (t:=26) ?_;intro gb459 hg w11 hbox hb;have BK459:=Aside0.mk (hbox);have GW459:=Aside0.mk ((gV hg (uB HB)));have GE459:=GW459;replace HB:=Aside0.mk (Qa (uB HB) hb);clear hb hbox hg;have hcz12_0:=bC BK459;have hfz12_0:=Qf BK459.out 0)|((with_reducible refine Qdp (f:=283) rfl ?_);refine Qeu (some 14) rfl rfl Tryz.func283 (by kernel_rfl) rfl #[.agg #[.slice A0_0 l0_0.length c0_0], .int .i64 (Go.bits .xor .i64 a1 (ji5))] rfl (by (try simp only [List.map_toArray,List.map_cons,List.map_nil]);first|done|(simp only [hji5];rfl)|rfl|(simp only [List.length_drop,List.length_take];rfl)) ?_;(with_reducible refine (Qbe.calls k _ _ l0_0 (Go.bits .xor .i64 a1 (ji5)) t460 _ (uD HR0_0 HB) HC0_0.out A6.out).mono ?_);rintro e w13 ⟨rfl,hb⟩;refine ⟨_,rfl,?_⟩;replace BK459:=Aside0.mk (Qc (uK BK459) hb);replace HB:=Aside0.mk (Qa (uB HB) hb);(try clear hb)))
   go_ret
   exact ⟨by first|rfl|(simp [Qd,Qe] <;>rfl)|(simp only [←hji5];first|rfl|(simp [Qd,Qe] <;>rfl))|(simp [*,Qd,Qe] <;>rfl),uB HB⟩
 ·
  rw [if_neg c4] at H;exact absurd H (by simp)
def Qby.l0 : Nat → Int → List Int → Int → Int → List Int → Option (Int)
 |0,_,_,_,_,_=>none
 |k+1,x1,x9,x10,x11,x462000=>if x11<x10 then (if 0≤x11 then (if x11<(x9.length:Int) then ((Qcz.f k x462000 x1 (rd x9 x11)).bind fun t463=>(Qby.l0 k t463 x9 x10 (wrap64 (x11+1)) x462000)) else (none)) else (none)) else (some x1)
def Qby.f (k : Nat) (l0_0 : List Int) (a1 : Int) (l2 : List Int) : Option (Int) := Qby.l0 k a1 l2 (l2.length : Int) 0 l0_0
theorem Qby.mono_l : ∀ k, (∀ y0 y1 y2 y3 y4, LeO (Qby.l0 k y0 y1 y2 y3 y4) (Qby.l0 (k + 1) y0 y1 y2 y3 y4))
 |0=>fun _ _ _ _ _ r h=>by simp [Qby.l0] at h
 |k+1=>by
  have ih0:=Qby.mono_l k
  ·
   intro y0 y1 y2 y3 y4;unfold Qby.l0
   repeat' first
   |(with_reducible exact ih0 _ _ _ _ _)
   |(with_reducible exact Qcz.mono _ _ _ _)
   |(with_reducible exact LeO.refl _)
   |(with_reducible exact LeO.none _)
   |(with_reducible refine LeO.ite ?_ ?_)
   |(with_reducible refine LeO.bind ?_ (fun _=> ?_))
   |exact ih0 _ _ _ _ _
   |exact Qcz.mono _ _ _ _
   |exact LeO.none _
   |refine LeO.ite ?_ ?_
   |refine LeO.bind ?_ (fun _=> ?_)
theorem Qby.mono : ∀ a0 a1 a2 k, LeO (Qby.f k a0 a1 a2) (Qby.f (k + 1) a0 a1 a2) := by
 intro a0 a1 a2 k;have ih0:=Qby.mono_l k;unfold Qby.f
 repeat' (with_reducible first|apply ih0|apply Qcz.mono|exact LeO.refl _|exact LeO.none _|refine LeO.ite ?_ ?_|refine LeO.bind ?_ (fun _=> ?_))
set_option maxHeartbeats 8000000 in
set_option maxRecDepth 100000 in
theorem Qby.calls (k : Nat) (A0_0 : Option Addr) (c0_0 : Nat) (l0_0 : List Int) (a1 : Int) (A2 : Option Addr) (c2 : Nat) (l2 : List Int) (r : Int) (w : World) (hr0_0 : Kd.C (Kd.int .i64) w A0_0 l0_0.length l0_0) (hc0_0 : l0_0.length ≤ c0_0) (hr2 : Kd.C (Kd.int .i64) w A2 l2.length l2) (hc2 : l2.length ≤ c2) (h : Qby.f k l0_0 a1 l2 = some r) :
 Calls Tryz.prog 276 #[.agg #[.slice A0_0 l0_0.length c0_0], .int .i64 a1, .slice A2 l2.length c2] w fun e w'=>e= .returned (.int .i64 r)∧Below w.heap.size w w':=by
 have hu26:=Tryz.underlying26;have HR0_0:=Aside0.mk hr0_0;have HC0_0:=Aside0.mk hc0_0;clear hr0_0 hc0_0;have HR2:=Aside0.mk hr2;have HC2:=Aside0.mk hc2;clear hr2 hc2;have HB:=Aside0.mk (Below.refl w.heap.size w);have H:(Qby.l0 k a1 l2 (l2.length:Int) 0 l0_0)=some r:=h;clear h;have H':=Aside0.mk H;clear H;go_enter Tryz.func276,Tryz.ntmps276;go_wp2_with (first|(refine bE (N:=3) (cs:= #[.slice A0_0 l0_0.length c0_0]) (t:=26) ?_;intro gb461 hg w4 hbox hb;have BK461:=Aside0.mk (hbox);have GW461:=Aside0.mk ((gV hg (uB HB)));have GE461:=GW461;replace HB:=Aside0.mk (Qa (uB HB) hb);clear hb hbox hg))
 go_loopg [1,11] k (fun kq v1 v11 w'=> ∃ (x1_1:Int) (x11_1:Int),v1= .int .i64 x1_1∧v11= .int .i64 x11_1∧Aside0 (Qby.l0 kq x1_1 l2 (l2.length:Int) x11_1 l0_0=some r)∧Aside0 (kq≤k)∧Aside0 (w'.heap[gb461]? =some (.cells #[(.slice A0_0 l0_0.length c0_0)] 26 (0,0)))∧Aside0 (Below w.heap.size w w'))
 case atStart=>exact ⟨(a1),(0),(by first|rfl|(simp;done)|(simp [*];done)),(by first|rfl|(simp;done)|(simp [*];done)),H',⟨Nat.le_refl _⟩,⟨uK BK461⟩,⟨uB HB⟩⟩
 case round=>
  clear H'
  try clear c2
  try clear p2
  obtain ⟨x1_1,x11_1,rfl,rfl,HA,HK1,BK461,HB⟩:=hrel;cases gk with
  |zero=>exact absurd HA.out (by simp [Qby.l0])
  |succ k1=>
   have H:=HA.out;clear HA;simp only [Qby.l0] at H
   by_cases c5:x11_1<(l2.length:Int)
   ·
    rw [if_pos c5] at H;have c5b0:=decide_eq_true c5;clear c5
    by_cases c6:0≤x11_1
    ·
     rw [if_pos c6] at H;have c6b0:=decide_eq_true c6;clear c6
     by_cases c7:x11_1<(l2.length:Int)
     ·
      rw [if_pos c7] at H;have c7b0:=decide_eq_true c7;clear c7;obtain ⟨t463,A8,H⟩:=bs H;(try dsimp only at H)
      have H':=Aside0.mk H;clear H;have p462:0≤(x11_1:Int):=of_decide_eq_true (by first|(with_reducible assumption)|assumption);have q462:x11_1<(l2.length:Int):=of_decide_eq_true (by first|(with_reducible assumption)|assumption);obtain ⟨ad462,e462,hx462_0⟩:=Kd.at_int HR2.out x11_1 p462 q462;cases e462;replace hx462_0:=(HB.out.cell (World.block_lt_of_cell? w _ hx462_0)).trans hx462_0;replace p462:=eq_true p462;replace q462:=eq_true q462;have hcz9_0:=bC BK461;have hfz9_0:=Qf BK461.out 0;go_wp2_with (first|(refine gA (some 18) Tryz.func291 #[.agg #[.slice A0_0 l0_0.length c0_0], .int .i64 x1_1, .int .i64 (rd l2 x11_1)] ?_;(with_reducible refine (Qcz.calls k1 _ _ l0_0 x1_1 (rd l2 x11_1) t463 _ (uD HR0_0 HB) HC0_0.out A8.out).mono ?_);rintro e w10 ⟨rfl,hb⟩;refine ⟨_,rfl,?_⟩;replace BK461:=Aside0.mk (Qc (uK BK461) hb);replace HB:=Aside0.mk (Qa (uB HB) hb);(try clear hb)));go_roundg k1
      case measure=>have:=HK1.out;omega
      case rel=>exact ⟨(t463),(wrap64 (x11_1+1)),(by first|rfl|(simp;done)|(simp [*];done)),(by first|rfl|(simp;done)|(simp [*];done)),H',⟨by have:=HK1.out;omega⟩,⟨uK BK461⟩,⟨uB HB⟩⟩
     ·
      rw [if_neg c7] at H;exact absurd H (by simp)
    ·
     rw [if_neg c6] at H;exact absurd H (by simp)
   ·
    rw [if_neg c5] at H;have c5b0:=decide_eq_false c5;clear c5;obtain rfl:=Option.some.inj H;go_wp2
    go_ret
    exact ⟨by first|rfl|(simp [Qd,Qe] <;>rfl)|(simp [*,Qd,Qe] <;>rfl),uB HB⟩
def Ql.l0 : Nat → Int → List Int → List Int → Int → Int → List Int → Option (Int)
 |0,_,_,_,_,_,_=>none
 |k+1,x1,x7,x12,x13,x14,x465000=>if x14<x13 then (if 0≤x14 then (if x14<(x12.length:Int) then (if 0≤(rd x12 x14) then (if (rd x12 x14)<(x7.length:Int) then ((Qbn.f k (rd x7 (rd x12 x14))).bind fun t470=>((Qby.f k x465000 x1 t470).bind fun t473=>(Ql.l0 k t473 x7 x12 x13 (wrap64 (x14+1)) x465000))) else (none)) else (none)) else (none)) else (none)) else (some x1)
def Ql.f (k : Nat) (l0_0 : List Int) (a1 : Int) (l2 : List Int) : Option (Int) := (Q6.f k l0_0).bind fun t465 => (Ql.l0 k a1 t465 l2 (l2.length : Int) 0 l0_0)
theorem Ql.mono_l : ∀ k, (∀ y0 y1 y2 y3 y4 y5, LeO (Ql.l0 k y0 y1 y2 y3 y4 y5) (Ql.l0 (k + 1) y0 y1 y2 y3 y4 y5))
 |0=>fun _ _ _ _ _ _ r h=>by simp [Ql.l0] at h
 |k+1=>by
  have ih0:=Ql.mono_l k
  ·
   intro y0 y1 y2 y3 y4 y5;unfold Ql.l0
   repeat' first
   |(with_reducible exact ih0 _ _ _ _ _ _)
   |(with_reducible exact Q6.mono _ _)
   |(with_reducible exact Qby.mono _ _ _ _)
   |(with_reducible exact Qbn.mono _ _)
   |(with_reducible exact LeO.refl _)
   |(with_reducible exact LeO.none _)
   |(with_reducible refine LeO.ite ?_ ?_)
   |(with_reducible refine LeO.bind ?_ (fun _=> ?_))
   |exact ih0 _ _ _ _ _ _
   |exact Q6.mono _ _
   |exact Qby.mono _ _ _ _
   |exact Qbn.mono _ _
   |exact LeO.none _
   |refine LeO.ite ?_ ?_
   |refine LeO.bind ?_ (fun _=> ?_)
theorem Ql.mono : ∀ a0 a1 a2 k, LeO (Ql.f k a0 a1 a2) (Ql.f (k + 1) a0 a1 a2) := by
 intro a0 a1 a2 k;have ih0:=Ql.mono_l k;unfold Ql.f
 repeat' (with_reducible first|apply ih0|apply Q6.mono|apply Qby.mono|apply Qbn.mono|exact LeO.refl _|exact LeO.none _|refine LeO.ite ?_ ?_|refine LeO.bind ?_ (fun _=> ?_))
def Ql.T5 : Bool × List (List Nat × List Nat) := (true, [([], []), ([], []), ([], []), ([], []), ([2, 3], [2, 3]), ([4], [4]), ([5], [5]), ([0, 1, 6, 6], [0, 1, 6]), ([7, 7, 0, 1, 2, 3, 4, 5, 6, 7], [1, 7])])
def Ql.B5 : List Nat := [0, 0, 0, 0, 12, 28, 60, 127, 255]
theorem Ql.tab5 : rtab .any (Qf2 Tryz.f149 5) = Ql.T5 := by kernel_rfl
theorem Ql.bits5 : Qd9 Ql.T5.2 Ql.B5 = true := by kernel_rfl
set_option maxHeartbeats 8000000 in
set_option maxRecDepth 100000 in
theorem Ql.calls (k : Nat) (A0_0 : Option Addr) (c0_0 : Nat) (l0_0 : List Int) (a1 : Int) (A2 : Option Addr) (c2 : Nat) (l2 : List Int) (r : Int) (w : World) (hr0_0 : Kd.C (Kd.int .i64) w A0_0 l0_0.length l0_0) (hc0_0 : l0_0.length ≤ c0_0) (hr2 : Kd.C (Kd.int .i64) w A2 l2.length l2) (hc2 : l2.length ≤ c2) (h : Ql.f k l0_0 a1 l2 = some r) :
 Calls Tryz.prog 149 #[.agg #[.slice A0_0 l0_0.length c0_0], .int .i64 a1, .slice A2 l2.length c2] w fun e w'=>e= .returned (.int .i64 r)∧Below w.heap.size w w':=by
 have hu26:=Tryz.underlying26;have HR0_0:=Aside0.mk hr0_0;have HC0_0:=Aside0.mk hc0_0;clear hr0_0 hc0_0;have HR2:=Aside0.mk hr2;have HC2:=Aside0.mk hc2;clear hr2 hc2;have HB:=Aside0.mk (Below.refl w.heap.size w);have H:((Q6.f k l0_0).bind fun t465=>(Ql.l0 k a1 t465 l2 (l2.length:Int) 0 l0_0))=some r:=h;clear h;obtain ⟨t465,A4,H⟩:=bs H;(try dsimp only at H)
 have H':=Aside0.mk H;clear H;go_enter Tryz.func149,Tryz.ntmps149;go_wp2_with (first|(refine bE (N:=3) (cs:= #[.slice A0_0 l0_0.length c0_0]) (t:=26) ?_;intro gb464 hg w5 hbox hb;have BK464:=Aside0.mk (hbox);have GW464:=Aside0.mk ((gV hg (uB HB)));have GE464:=GW464;replace HB:=Aside0.mk (Qa (uB HB) hb);clear hb hbox hg;have hcz6_0:=bC BK464;have hfz6_0:=Qf BK464.out 0)|(refine gA (some 11) Tryz.func157 #[.agg #[.slice A0_0 l0_0.length c0_0]] ?_;(with_reducible refine (Q6.calls k _ _ l0_0 t465 _ (uD HR0_0 HB) HC0_0.out A4.out).mono ?_);rintro e w7 ⟨v466,rfl,ho0,hb⟩;refine ⟨_,rfl,?_⟩;have HO467:=Aside0.mk (Kd.R_lower ho0 (Qp (uB HB)));replace BK464:=Aside0.mk (Qc (uK BK464) hb);replace HB:=Aside0.mk (Qa (uB HB) hb);(try clear hb ho0)))
 go_loopg [1,14] k (fun kq v1 v14 w'=> ∃ (x1_1:Int) (x14_1:Int),v1= .int .i64 x1_1∧v14= .int .i64 x14_1∧Aside0 (Ql.l0 kq x1_1 t465 l2 (l2.length:Int) x14_1 l0_0=some r)∧Aside0 (kq≤k)∧Aside0 (Kd.R (Kd.int .i64) 3 w' w.heap.size (fun _=>True) v466 t465)∧Aside0 (w'.heap[gb464]? =some (.cells #[(.slice A0_0 l0_0.length c0_0)] 26 (0,0)))∧Aside0 (Below w.heap.size w w'))
 case atStart=>exact ⟨(a1),(0),(by first|rfl|(simp;done)|(simp [*];done)),(by first|rfl|(simp;done)|(simp [*];done)),H',⟨Nat.le_refl _⟩,⟨uR HO467⟩,⟨uK BK464⟩,⟨uB HB⟩⟩
 case round=>
  clear H'
  try clear c1
  try clear c2
  try clear p2
  try clear hcz6_0
  try clear hfz6_0
  obtain ⟨x1_1,x14_1,rfl,rfl,HA,HK1,HO_7,BK464,HB⟩:=hrel;cases gk with
  |zero=>exact absurd HA.out (by simp [Ql.l0])
  |succ k1=>
   have H:=HA.out;clear HA;simp only [Ql.l0] at H
   by_cases c8:x14_1<(l2.length:Int)
   ·
    rw [if_pos c8] at H;have c8b0:=decide_eq_true c8;clear c8
    by_cases c9:0≤x14_1
    ·
     rw [if_pos c9] at H;have c9b0:=decide_eq_true c9;clear c9
     by_cases c10:x14_1<(l2.length:Int)
     ·
      rw [if_pos c10] at H;have c10b0:=decide_eq_true c10;clear c10
      by_cases c11:0≤(rd l2 x14_1)
      ·
       rw [if_pos c11] at H;have c11b0:=decide_eq_true c11;clear c11
       by_cases c12:(rd l2 x14_1)<(t465.length:Int)
       ·
        rw [if_pos c12] at H;have c12b0:=decide_eq_true c12;clear c12;obtain ⟨t470,A13,H⟩:=bs H;(try dsimp only at H)
        obtain ⟨t473,A14,H⟩:=bs H;(try dsimp only at H)
        have H':=Aside0.mk H;clear H;have p468:0≤(x14_1:Int):=of_decide_eq_true (by first|(with_reducible assumption)|assumption);have q468:x14_1<(l2.length:Int):=of_decide_eq_true (by first|(with_reducible assumption)|assumption);obtain ⟨ad468,e468,hx468_0⟩:=Kd.at_int HR2.out x14_1 p468 q468;cases e468;replace hx468_0:=(HB.out.cell (World.block_lt_of_cell? w _ hx468_0)).trans hx468_0;replace p468:=eq_true p468;replace q468:=eq_true q468
        try go_wp2
        replace HO_7:=Aside0.mk (Kd.R_drew HO_7.out);replace BK464:=Aside0.mk (Qj BK464.out);replace HB:=Aside0.mk (Qy HB.out);obtain ⟨Ao16,co16,eo16⟩:=Kd.R_slice HO_7.out
        (first|subst eo16|(injection eo16 with f1_ f2_ f3_;have f4_:=f1_.symm;have f5_:=f3_.symm;clear f1_ f2_ f3_;subst f4_;subst f5_))
        have p469:0≤((rd l2 x14_1):Int):=of_decide_eq_true (by first|(with_reducible assumption)|assumption);have q469:(rd l2 x14_1)<(t465.length:Int):=of_decide_eq_true (by first|(with_reducible assumption)|assumption);obtain ⟨ad469,e469,hx469_0⟩:=Kd.at_int (Kd.R_reads' HO_7.out).2.2 (rd l2 x14_1) p469 q469;cases e469;replace p469:=eq_true p469;replace q469:=eq_true q469;refine sU (n:=9) (S:=fun w'=>w'.cell? ⟨gb464,0,none⟩=some (.slice A0_0 l0_0.length c0_0)∧w'.cell? (ad469.add ((rd l2 x14_1)).toNat)=some (.int .i64 (rd t465 (rd l2 x14_1)))) (ds:= []) ⟨(Qci BK464.out 0).trans rfl,hx469_0⟩ (fun hHeld=> ?_);refine Qeg Ql.tab5 Ql.bits5 (fun HT_ HW_=> ?_);generalize wr.drew=w15 at HO_7 BK464 HB hx469_0 hHeld ⊢;refine pU 1 19 ?_;refine pU 2 20 ?_;refine pU 3 21 ?_;refine pU 4 22 ?_;refine tW 0 18 hHeld ?_;refine tW 5 23 hHeld ?_;refine oU 6 (some 24) fun K hK=> ?_
        refine Qes Tryz.func277 (by kernel_rfl) rfl #[.int .i64 (rd t465 (rd l2 x14_1))] (by rfl) rfl rfl (by (try simp only [List.map_toArray,List.map_cons,List.map_nil]);first|done|rfl|(simp only [List.length_drop,List.length_take];rfl)) ?_
        with_reducible refine (Qbn.calls k1 (rd t465 (rd l2 x14_1)) t470 _ A13.out).mono ?_
        rintro e w17 ⟨v471,rfl,ho0,hb⟩;have HS1_:=(hb.cell (World.block_lt_of_cell? _ _ (hHeld.2))).trans (hHeld.2);refine ⟨_,rfl,?_⟩;have HO472:=Aside0.mk (Kd.R_lower (Kd.R_new' ho0 (Kd.R_lt (uR HO_7))) (Qp (uB HB)));replace HO_7:=Aside0.mk (Kd.R_elder' (uR HO_7) (Kd.R_base ho0) hb);replace BK464:=Aside0.mk (Qc (uK BK464) hb);replace HB:=Aside0.mk (Qa (uB HB) hb)
        skip
        skip
        skip
        skip
        skip
        obtain ⟨Ao18,co18,eo18⟩:=Kd.R_slice HO472.out
        (first|subst eo18|(injection eo18 with f1_ f2_ f3_;have f4_:=f1_.symm;have f5_:=f3_.symm;clear f1_ f2_ f3_;subst f4_;subst f5_))
        refine hK.out _ _ ⟨(Qci BK464.out 0).trans rfl,HS1_⟩ (fun hHeld=> ?_);clear hK K;refine nU 24 ?_;refine oU 7 (some 25) fun K hK=> ?_
        refine Qes Tryz.func276 (by kernel_rfl) rfl #[.agg #[.slice A0_0 l0_0.length c0_0], .int .i64 x1_1, .slice Ao18 t470.length co18] (by rfl) rfl rfl (by (try simp only [List.map_toArray,List.map_cons,List.map_nil]);first|done|rfl|(simp only [List.length_drop,List.length_take];rfl)) ?_
        with_reducible refine (Qby.calls k1 _ _ l0_0 x1_1 _ _ t470 t473 _ ?side1 ?side2 ?side3 ?side4 A14.out).mono ?_
        (case side1=>repeat (first|exact (Kd.C_below HR0_0.out HB.out)|(with_reducible refine Kd.C_alloc ?_ _)|(with_reducible refine Kd.C_drewN ?_ _)|(with_reducible refine Kd.C_drew ?_)))
        (case side2=>exact HC0_0.out)
        (case side3=>repeat (first|exact (Kd.R_reads' HO472.out).2.2|(with_reducible refine Kd.C_alloc ?_ _)|(with_reducible refine Kd.C_drewN ?_ _)|(with_reducible refine Kd.C_drew ?_)))
        (case side4=>exact (Kd.R_reads' HO472.out).2.1)
        rintro e w19 ⟨rfl,hb⟩;have HS1_:=(hb.cell (World.block_lt_of_cell? _ _ (hHeld.2))).trans (hHeld.2);refine ⟨_,rfl,?_⟩;replace HO_7:=Aside0.mk (Kd.R_below (uR HO_7) hb);replace HO472:=Aside0.mk (Kd.R_below (uR HO472) hb);replace BK464:=Aside0.mk (Qc (uK BK464) hb);replace HB:=Aside0.mk (Qa (uB HB) hb)
        skip
        skip
        skip
        skip
        refine hK.out _ _ ⟨(Qci BK464.out 0).trans rfl,HS1_⟩ (fun hHeld=> ?_);clear hK K;refine nU 25 ?_;refine pU 8 1 ?_;refine dU ?_
        try go_wp2
        go_roundg k1
        case measure=>have:=HK1.out;omega
        case rel=>exact ⟨(t473),(wrap64 (x14_1+1)),(by first|rfl|(simp;done)|(simp [*];done)),(by first|rfl|(simp;done)|(simp [*];done)),H',⟨by have:=HK1.out;omega⟩,⟨by (with_reducible repeat (first|apply Kd.R_alloc|apply Kd.R_drewN|apply Kd.R_drew));exact Kd.R_mono HO_7.out (fun _ hk=>trivial)⟩,⟨uK BK464⟩,⟨uB HB⟩⟩
       ·
        rw [if_neg c12] at H;exact absurd H (by simp)
      ·
       rw [if_neg c11] at H;exact absurd H (by simp)
     ·
      rw [if_neg c10] at H;exact absurd H (by simp)
    ·
     rw [if_neg c9] at H;exact absurd H (by simp)
   ·
    rw [if_neg c8] at H;have c8b0:=decide_eq_false c8;clear c8;obtain rfl:=Option.some.inj H;go_wp2
    go_ret
    exact ⟨by first|rfl|(simp [Qd,Qe] <;>rfl)|(simp [*,Qd,Qe] <;>rfl),uB HB⟩
mutual
def Qba.l0 : Nat → Int → List Int → Int → Int → Option (List Int)
 |0,_,_,_,_=>none
 |k+1,x0,x3,x8,x9=>if x9<x8 then (Qba.l1 k x0 x3 x9 x0 x8 x9) else (some x3)
def Qba.l1 : Nat → Int → List Int → Int → Int → Int → Int → Option (List Int)
 |0,_,_,_,_,_,_=>none
 |k+1,x0,x3,x4,x5,x8,x9=>if x5 ≥ x4 then (if x3.length<17592186044416 then (Qba.l1 k x0 (x3++ [x5]) x4 (wrap64 (x5 - 1)) x8 x9) else (none)) else (Qba.l0 k x0 x3 x8 (wrap64 (x9+1)))
end
def Qba.f (k : Nat) (a0 : Int) : Option (List Int) := Qba.l0 k a0 (([] : List Int)) (wrap64 (a0 + 1)) 0
theorem Qba.mono_l : ∀ k, (∀ y0 y1 y2 y3, LeO (Qba.l0 k y0 y1 y2 y3) (Qba.l0 (k + 1) y0 y1 y2 y3)) ∧ (∀ y0 y1 y2 y3 y4 y5, LeO (Qba.l1 k y0 y1 y2 y3 y4 y5) (Qba.l1 (k + 1) y0 y1 y2 y3 y4 y5))
 |0=>⟨fun _ _ _ _ r h=>by simp [Qba.l0] at h,fun _ _ _ _ _ _ r h=>by simp [Qba.l1] at h⟩
 |k+1=>by
  obtain ⟨ih0,ih1⟩:=Qba.mono_l k;refine ⟨?_,?_⟩
  all_goals
   intros
   first|unfold Qba.l0|unfold Qba.l1
   repeat' (with_reducible first|apply ih0|apply ih1|exact LeO.refl _|exact LeO.none _|refine LeO.ite ?_ ?_|refine LeO.bind ?_ (fun _=> ?_))
theorem Qba.mono : ∀ a0 k, LeO (Qba.f k a0) (Qba.f (k + 1) a0) := by
 intro a0 k;obtain ⟨ih0,ih1⟩:=Qba.mono_l k;unfold Qba.f
 repeat' (with_reducible first|apply ih0|apply ih1|exact LeO.refl _|exact LeO.none _|refine LeO.ite ?_ ?_|refine LeO.bind ?_ (fun _=> ?_))
set_option maxHeartbeats 8000000 in
set_option maxRecDepth 100000 in
theorem Qba.calls (k : Nat) (a0 : Int) (r : List Int) (w : World) (h : Qba.f k a0 = some r) :
 Calls Tryz.prog 150 #[.int .i64 a0] w fun e w'=> ∃ v0_:Value,e= .returned (v0_)∧Kd.R (Kd.int .i64) 3 w' w.heap.size (fun _=>True) v0_ r∧Below w.heap.size w w':=by
 have HB:=Aside0.mk (Below.refl w.heap.size w);have H:(Qba.l0 k a0 (([] :List Int)) (wrap64 (a0+1)) 0)=some r:=h;clear h;obtain ⟨y474,hy474⟩: ∃ y_:List Int,y_=(([] :List Int)):=⟨_,rfl⟩
 replace H:(Qba.l0 k a0 y474 (wrap64 (a0+1)) 0)=some r:=by first|(rw [hy474];with_reducible exact H)|(have H2_:=(Option.bind_some _ _).symm.trans H;rw [hy474];with_reducible exact H2_)|(have H2_:=(Option.bind_some _ _).symm.trans H;with_reducible exact H2_)|with_reducible exact H|(rw [hy474];exact H)|exact H
 have Ny474:=Aside0.mk hy474;clear hy474;have H':=Aside0.mk H;clear H;go_enter Tryz.func150,Tryz.ntmps150;go_wp2_with (first|((with_reducible refine Qc0 (N:=6) rfl ?_);refine Kd.R_lit (Kd.int .i64) _ 3 ?hg (N:=6) ?hd (xs:=([] :List Int)) (inner:= []) (ok:=fun _=>True) (okp:=fun _=>True) ?hr ?hp (fun _ hk=>hk) trivial (Below.refl _ _) (Nat.le_refl _) (by simp) ?_;(case hd=>rfl);(case hg=>rfl);(case hr=>first|(go_simp;done)|(go_simp;rfl));(case hp=>exact (Reps.none _ _));intro v475 w2 ho3 hb hg_ hnew_;clear hg_ hnew_;(first|rw [←Ny474.out] at ho3|(simp only [Int.reduceToNat] at ho3;rw [←Ny474.out] at ho3));have HO476:=Aside0.mk (Kd.R_lower ho3 (Qp (uB HB)));replace HB:=Aside0.mk (Qa (uB HB) hb);clear hb ho3))
 go_loopg [3,9] k (fun kq v3 v9 w'=> ∃ (x3_1:List Int) (x9_1:Int),v9= .int .i64 x9_1∧Aside0 (Qba.l0 kq a0 x3_1 (wrap64 (a0+1)) x9_1=some r)∧Aside0 (kq≤k)∧Aside0 (Kd.R (Kd.int .i64) 3 w' w.heap.size (fun _=>True) v3 x3_1)∧Aside0 (Below w.heap.size w w'))
 case atStart=>exact ⟨(y474),(0),(by first|rfl|(simp;done)|(simp [*];done)),H',⟨Nat.le_refl _⟩,⟨uR HO476⟩,⟨uB HB⟩⟩
 case round=>
  clear H'
  try clear c1
  try clear p2
  obtain ⟨x3_1,x9_1,rfl,HA,HK1,HO_3,HB⟩:=hrel;cases gk with
  |zero=>exact absurd HA.out (by simp [Qba.l0])
  |succ k1=>
   have H:=HA.out;clear HA;simp only [Qba.l0] at H
   by_cases c4:x9_1<(wrap64 (a0+1))
   ·
    rw [if_pos c4] at H;have c4b0:=decide_eq_true c4;clear c4;have H':=Aside0.mk H;clear H;go_wp2
    go_loopg [3,5] k1 (fun kq v3 v5 w'=> ∃ (x3_2:List Int) (x5_2:Int),v5= .int .i64 x5_2∧Aside0 (Qba.l1 kq a0 x3_2 x9_1 x5_2 (wrap64 (a0+1)) x9_1=some r)∧Aside0 (kq≤k1)∧Aside0 (Kd.R (Kd.int .i64) 3 w' w.heap.size (fun _=>True) v3 x3_2)∧Aside0 (Below w.heap.size w w'))
    case atStart=>exact ⟨(x3_1),(a0),(by first|rfl|(simp;done)|(simp [*];done)),H',⟨Nat.le_refl _⟩,⟨uR HO_3⟩,⟨uB HB⟩⟩
    case round=>
     clear H'
     try clear c1
     try clear p2
     try clear c4
     try clear c4b0
     try clear p2
     obtain ⟨x3_2,x5_2,rfl,HA,HK2,HO_3,HB⟩:=hrel;cases gk with
     |zero=>exact absurd HA.out (by simp [Qba.l1])
     |succ k2=>
      have H:=HA.out;clear HA;simp only [Qba.l1] at H
      by_cases c5:x5_2 ≥ x9_1
      ·
       rw [if_pos c5] at H;have c5b0:=decide_eq_true c5;clear c5
       by_cases c6:x3_2.length<17592186044416
       ·
        rw [if_pos c6] at H;have LMc6:=Aside0.mk c6;clear c6;obtain ⟨y477,hy477⟩: ∃ y_:List Int,y_=(x3_2++ [x5_2]):=⟨_,rfl⟩
        replace H:(Qba.l1 k2 a0 y477 x9_1 (wrap64 (x5_2 - 1)) (wrap64 (a0+1)) x9_1)=some r:=by first|(rw [hy477];with_reducible exact H)|(have H2_:=(Option.bind_some _ _).symm.trans H;rw [hy477];with_reducible exact H2_)|(have H2_:=(Option.bind_some _ _).symm.trans H;with_reducible exact H2_)|with_reducible exact H|(rw [hy477];exact H)|exact H
        have Ny477:=Aside0.mk hy477;clear hy477;have H':=Aside0.mk H;clear H;go_wp2_with (first|((with_reducible refine Qc4 (b:= .append) (xs:= #[.tmp 18, .tmp 20]) rfl ?_);at_builtin;refine Kd.R_append (Kd.int .i64) (w0:=w) w.heap.size rfl (.tmp 18) (.tmp 20) 24 3 (.int .i64 0) 8 rfl Tryz.underlying24 Qfm rfl (by decide) (by omega) u3 x3_2 x5_2 [.int .i64 x5_2] (fun _=>True) (fun _=>False) rfl rfl ?aP (fun _ hk=>hk.elim) ?aF ?aO ?aB ?aS ?aL ?_;(case aP=>exact rfl);(case aB=>exact (uB HB));(case aF=>exact (fun _ _=>trivial));(case aO=>exact (uR HO_3));(case aS=>exact (Qp (uB HB)));(case aL=>have:=LMc6.out;omega);intro v478 w7 ho hb hg hat;rw [←Ny477.out] at ho;replace HB:=Aside0.mk (hb);have HO479:=Aside0.mk (ho);clear HO_3;clear ho hb hg hat));go_roundg k2
        case measure=>have:=HK1.out;have:=HK2.out;omega
        case rel=>exact ⟨(y477),(wrap64 (x5_2 - 1)),(by first|rfl|(simp;done)|(simp [*];done)),H',⟨by have:=HK1.out;have:=HK2.out;omega⟩,⟨uR HO479⟩,⟨uB HB⟩⟩
       ·
        rw [if_neg c6] at H;exact absurd H (by simp)
      ·
       rw [if_neg c5] at H;have c5b0:=decide_eq_false c5;clear c5;have H':=Aside0.mk H;clear H;go_wp2;go_roundg k2
       case measure=>have:=HK1.out;have:=HK2.out;omega
       case rel=>exact ⟨(x3_2),(wrap64 (x9_1+1)),(by first|rfl|(simp;done)|(simp [*];done)),H',⟨by have:=HK1.out;have:=HK2.out;omega⟩,⟨uR HO_3⟩,⟨uB HB⟩⟩
   ·
    rw [if_neg c4] at H;have c4b0:=decide_eq_false c4;clear c4;obtain rfl:=Option.some.inj H;go_wp2
    go_ret
    exact ⟨_,by first|rfl|(simp [Qd,Qe] <;>rfl)|(simp [*,Qd,Qe] <;>rfl),uR HO_3,uB HB⟩
def Qcg.f (k : Nat) (l0_0 : List Int) : Option (Int) := (Q6.f k l0_0).bind fun t481 => (some (wrap64 ((t481.length : Int) - 1)))
theorem Qcg.mono : ∀ a0 k, LeO (Qcg.f k a0) (Qcg.f (k + 1) a0) := by
 intro a0 k;unfold Qcg.f
 repeat' (with_reducible first|apply Q6.mono|exact LeO.refl _|exact LeO.none _|refine LeO.ite ?_ ?_|refine LeO.bind ?_ (fun _=> ?_))
set_option maxHeartbeats 8000000 in
set_option maxRecDepth 100000 in
theorem Qcg.calls (k : Nat) (A0_0 : Option Addr) (c0_0 : Nat) (l0_0 : List Int) (r : Int) (w : World) (hr0_0 : Kd.C (Kd.int .i64) w A0_0 l0_0.length l0_0) (hc0_0 : l0_0.length ≤ c0_0) (h : Qcg.f k l0_0 = some r) :
 Calls Tryz.prog 151 #[.agg #[.slice A0_0 l0_0.length c0_0]] w fun e w'=>e= .returned (.int .i64 r)∧Below w.heap.size w w':=by
 have hu26:=Tryz.underlying26;have HR0_0:=Aside0.mk hr0_0;have HC0_0:=Aside0.mk hc0_0;clear hr0_0 hc0_0;have HB:=Aside0.mk (Below.refl w.heap.size w);have H:((Q6.f k l0_0).bind fun t481=>(some (wrap64 ((t481.length:Int) - 1))))=some r:=h;clear h;obtain ⟨t481,A2,H⟩:=bs H;(try dsimp only at H)
 obtain rfl:=Option.some.inj H;go_enter Tryz.func151,Tryz.ntmps151;go_wp2_with (first|(refine bE (N:=1) (cs:= #[.slice A0_0 l0_0.length c0_0]) (t:=26) ?_;intro gb480 hg w3 hbox hb;have BK480:=Aside0.mk (hbox);have GW480:=Aside0.mk ((gV hg (uB HB)));have GE480:=GW480;replace HB:=Aside0.mk (Qa (uB HB) hb);clear hb hbox hg;have hcz4_0:=bC BK480;have hfz4_0:=Qf BK480.out 0)|(refine gA (some 4) Tryz.func157 #[.agg #[.slice A0_0 l0_0.length c0_0]] ?_;(with_reducible refine (Q6.calls k _ _ l0_0 t481 _ (uD HR0_0 HB) HC0_0.out A2.out).mono ?_);rintro e w5 ⟨v482,rfl,ho0,hb⟩;refine ⟨_,rfl,?_⟩;have HO483:=Aside0.mk (Kd.R_lower ho0 (Qp (uB HB)));replace BK480:=Aside0.mk (Qc (uK BK480) hb);replace HB:=Aside0.mk (Qa (uB HB) hb);(try clear hb ho0);obtain ⟨Ao6,co6,eo6⟩:=Kd.R_slice HO483.out;subst eo6))
 go_ret
 exact ⟨by first|rfl|(simp [Qd,Qe] <;>rfl)|(simp [*,Qd,Qe] <;>rfl),uB HB⟩
end Go.Proofs.YtkgngggppcmpfaaGreat.L
end
