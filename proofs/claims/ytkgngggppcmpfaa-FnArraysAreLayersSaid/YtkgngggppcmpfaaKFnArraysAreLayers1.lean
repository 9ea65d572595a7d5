/- Laws about the given program: the law FnArraysAreLayers answers true for every input that its row lets in; no condition is added to the given statement. Contracts of the Go functions that it reaches, and the plain proof over lists. -/
import Derived.Test.YtkgngggppcmpfaaWFnArraysAreLayers0
import Derived.Test.YtkgngggppcmpfaaKFnArraysAreLayers0
section
namespace Go.Proofs.Ytkgngggppcmpfaa.L
open Go.RowKit Go.Proofs.YtkgngggppcmpfaaW.PrintWords Go.Proofs.YtkgngggppcmpfaaW.PrintLast Go.Proofs.YtkgngggppcmpfaaW.PrintMore Go.Proofs.Ytkgngggppcmpfaa.X
attribute [local go_sem] Qbd Qbf Qbn Qbo Q3 Q4 Qbe Qbg
set_option linter.unusedVariables false
set_option linter.unusedSimpArgs false
mutual
def Qu.j0:Nat→List Int→Int→Int→Bool→List Int→Option (List Int × Bool)
 |0,_,_,_,_,_=>none
 |k+1,x1,x2,x3,x21,x168000=>if x21=true then (some (([] :List Int),false)) else ((Qc7.f x1).bind fun t170=>((Qb1.f x168000).bind fun t173=>((Qca.f k t173).bind fun t174=>(if x3>0 then ((Qs.f k t174).bind fun t177=>(Qu.j1 k x2 x3 t170 t177 x168000)) else (Qu.j1 k x2 x3 t170 t174 x168000)))))
def Qu.j1:Nat→Int→Int→List Int→List Int→List Int→Option (List Int × Bool)
 |0,_,_,_,_,_=>none
 |k+1,x2,x3,x10,x11,x168000=>Qu.l0 k x2 x10 x11 (mx x3 (wrap64 (-x3))) 0 x168000
def Qu.l0:Nat→Int→List Int→List Int→Int→Int→List Int→Option (List Int × Bool)
 |0,_,_,_,_,_,_=>none
 |k+1,x2,x10,x11,x34,x35,x168000=>if x35<x34 then ((Qb3.f k x168000 x10 x2 x11).bind fun t178=>(Qu.l0 k x2 t178 x11 x34 (wrap64 (x35+1)) x168000)) else (some (x10,true))
end
def Qu.f (k:Nat) (l0_0:List Int) (l1:List Int) (a2:Int) (a3:Int):Option (List Int × Bool):=(Qcv.f k l0_0 l1 a2).bind fun t168=>(if t168=true then ((Qcd.f a3 (-1000) 1000).bind fun t169=>(Qu.j0 k l1 a2 a3 (!t169) l0_0)) else (Qu.j0 k l1 a2 a3 true l0_0))
theorem Qu.mono_l: ∀ k,(∀ y0 y1 y2 y3 y4,LeO (Qu.j0 k y0 y1 y2 y3 y4) (Qu.j0 (k+1) y0 y1 y2 y3 y4))∧(∀ y0 y1 y2 y3 y4,LeO (Qu.j1 k y0 y1 y2 y3 y4) (Qu.j1 (k+1) y0 y1 y2 y3 y4))∧(∀ y0 y1 y2 y3 y4 y5,LeO (Qu.l0 k y0 y1 y2 y3 y4 y5) (Qu.l0 (k+1) y0 y1 y2 y3 y4 y5))
 |0=>⟨fun _ _ _ _ _ r h=>by simp [Qu.j0] at h,fun _ _ _ _ _ r h=>by simp [Qu.j1] at h,fun _ _ _ _ _ _ r h=>by simp [Qu.l0] at h⟩
 |k+1=>by
  obtain ⟨ih0,ih1,ih2⟩:=Qu.mono_l k;refine ⟨?_,?_,?_⟩
  all_goals
   intros
   first|unfold Qu.j0|unfold Qu.j1|unfold Qu.l0
   repeat' (with_reducible first|apply ih0|apply ih1|apply ih2|apply Qb3.mono|apply Qcv.mono|apply Qca.mono|apply Qs.mono|exact LeO.refl _|exact LeO.none _|refine LeO.ite ?_ ?_|refine LeO.bind ?_ (fun _=> ?_))
theorem Qu.mono: ∀ a0 a1 a2 a3 k,LeO (Qu.f k a0 a1 a2 a3) (Qu.f (k+1) a0 a1 a2 a3):=by
 intro a0 a1 a2 a3 k;obtain ⟨ih0,ih1,ih2⟩:=Qu.mono_l k;unfold Qu.f
 repeat' (with_reducible first|apply ih0|apply ih1|apply ih2|apply Qb3.mono|apply Qcv.mono|apply Qca.mono|apply Qs.mono|exact LeO.refl _|exact LeO.none _|refine LeO.ite ?_ ?_|refine LeO.bind ?_ (fun _=> ?_))
set_option maxHeartbeats 8000000 in
set_option maxRecDepth 100000 in
theorem Qu.calls (k:Nat) (A0_0:Option Addr) (c0_0:Nat) (l0_0:List Int) (A1:Option Addr) (c1:Nat) (l1:List Int) (a2:Int) (a3:Int) (r1:List Int) (r2:Bool) (w:World) (hr0_0:Kd.C (Kd.int .i64) w A0_0 l0_0.length l0_0) (hc0_0:l0_0.length≤c0_0) (hr1:Kd.C (Kd.int .i64) w A1 l1.length l1) (hc1:l1.length≤c1) (h:Qu.f k l0_0 l1 a2 a3=some (r1,r2)):
 Calls Try.prog 33 #[.agg #[.slice A0_0 l0_0.length c0_0], .slice A1 l1.length c1, .int .i64 a2, .int .i64 a3] w fun e w'=> ∃ v0_:Value,e= .returned (.tuple #[v0_, .bool r2])∧Kd.R (Kd.int .i64) 3 w' w.heap.size (fun _=>True) v0_ r1∧Below w.heap.size w w':=by
 have hu26:=Try.underlying26;have HR0_0:=Zk hr0_0;have HC0_0:=Zk hc0_0;clear hr0_0 hc0_0;have HR1:=Zk hr1;have HC1:=Zk hc1;clear hr1 hc1;have HB:=Zk (Below.refl w.heap.size w);have H:((Qcv.f k l0_0 l1 a2).bind fun t168=>(if t168=true then ((Qcd.f a3 (-1000) 1000).bind fun t169=>(Qu.j0 k l1 a2 a3 (!t169) l0_0)) else (Qu.j0 k l1 a2 a3 true l0_0)))=some (r1,r2):=h;clear h;have HC5:=Zk H;clear H;go_enter Try.func33,Try.ntmps33;go_upto_region 1 with (first|(refine bE (N:=4) (cs:= #[.slice A0_0 l0_0.length c0_0]) (t:=26) ?_;intro gb167 hg w6 hbox hb;have BK167:=Zk (hbox);have GW167:=Zk ((by rw [hg];exact (Qh (uB HB)):w.heap.size≤gb167));have GE167:=GW167;replace HB:=Zk (Qc (uB HB) hb);clear hb hbox hg))
 (try simp only [Act.put,List.setIfInBounds_toArray,List.set_cons_zero,List.set_cons_succ])
 go_cut [21] (fun v21 wc=> ∃ (kq:Nat) (x21_4:Bool),v21= .bool x21_4∧Z0 (Qu.j0 kq l1 a2 a3 x21_4 l0_0=some (r1,r2))∧Z0 (kq≤k)∧Z0 (wc.heap[gb167]? =some (.cells #[(.slice A0_0 l0_0.length c0_0)] 26 (0,0)))∧Z0 (Below w.heap.size w wc))
 case first=>
  have H:=HC5.out;clear HC5;obtain ⟨t168,A7,H⟩:=bs H;(try dsimp only at H)
  by_cases c8:t168=true
  ·
   subst c8;rw [if_pos rfl] at H;obtain ⟨t169,A9,H⟩:=bs H;(try dsimp only at H)
   have H':=Zk H;clear H;have hcz10_0:=bC BK167;have hfz10_0:=Qg BK167.out 0;go_wp2_with (first|(refine gA (some 15) Try.func62 #[.agg #[.slice A0_0 l0_0.length c0_0], .slice A1 l1.length c1, .int .i64 a2] ?_;(with_reducible refine (Qcv.calls k _ _ l0_0 _ _ l1 a2 true _ (uD HR0_0 HB) HC0_0.out (uD HR1 HB) HC1.out A7.out).mono ?_);rintro e w11 ⟨rfl,hb⟩;refine ⟨_,rfl,?_⟩;replace BK167:=Zk (Qd (uK BK167) hb);replace HB:=Zk (Qc (vB HB) hb);(try clear hb))|(go_at_call 81;(with_reducible refine (Qcd.calls a3 (-1000) 1000 t169 _ A9.out).mono ?_);rintro e w' ⟨rfl,⟨nd,rfl⟩⟩))
   go_meet
   case rel=>exact ⟨_,(!t169),(by first|rfl|(simp;done)|(simp [*];done)),H',⟨by first|omega|exact Nat.le_refl _⟩,⟨uK BK167⟩,⟨(vB HB)⟩⟩
  ·
   replace c8:=Bool.eq_false_iff.mpr c8;subst c8;rw [if_neg (show ¬ (false=true) by decide)] at H;have H':=Zk H;clear H;have hcz12_0:=bC BK167;have hfz12_0:=Qg BK167.out 0;go_wp2_with (first|(refine gA (some 15) Try.func62 #[.agg #[.slice A0_0 l0_0.length c0_0], .slice A1 l1.length c1, .int .i64 a2] ?_;(with_reducible refine (Qcv.calls k _ _ l0_0 _ _ l1 a2 false _ (uD HR0_0 HB) HC0_0.out (uD HR1 HB) HC1.out A7.out).mono ?_);rintro e w13 ⟨rfl,hb⟩;refine ⟨_,rfl,?_⟩;replace BK167:=Zk (Qd (uK BK167) hb);replace HB:=Zk (Qc (vB HB) hb);(try clear hb)))
   go_meet
   case rel=>exact ⟨_,(true),(by first|rfl|(simp;done)|(simp [*];done)),H',⟨by first|omega|exact Nat.le_refl _⟩,⟨uK BK167⟩,⟨(vB HB)⟩⟩
 case rest=>
  clear HC5
  skip
  obtain ⟨kq,x21_4,rfl,HA,HJ4,BK167,HB⟩:=hcut;cases kq with
  |zero=>exact absurd HA.out (by simp [Qu.j0])
  |succ kj4=>
   have H:=HA.out;clear HA;simp only [Qu.j0] at H
   by_cases c14:x21_4=true
   ·
    subst c14;rw [if_pos rfl] at H;simp only [Option.some.injEq,Prod.mk.injEq] at H;obtain ⟨rfl,rfl⟩:=H;go_wp2
    go_ret2
    exact ⟨_,by first|rfl|(simp [Qe,Qf] <;>rfl)|(simp [*,Qe,Qf] <;>rfl),by first|exact Kd.R_nil _ _ _ _ _|exact Kd.N_nil _ _ _ _ _|exact Kd.V_nil _ _ _ _ _|exact Kd.Q_nil _ _ _ _ _|exact Kd.S_nil _ _ _ _ _,(vB HB)⟩
   ·
    replace c14:=Bool.eq_false_iff.mpr c14;subst c14;rw [if_neg (show ¬ (false=true) by decide)] at H;obtain ⟨t170,A15,H⟩:=bs H;(try dsimp only at H)
    obtain ⟨t173,A16,H⟩:=bs H;(try dsimp only at H)
    obtain ⟨t174,A17,H⟩:=bs H;(try dsimp only at H)
    have HC18:=Zk H;clear H
    try go_wp2
    replace BK167:=Zk (Qbj BK167.out);replace HB:=Zk (Qbb HB.out);refine sU (n:=7) (S:=fun w'=>w'.cell? ⟨gb167,0,none⟩=some (.slice A0_0 l0_0.length c0_0)) (ds:= []) ((Qb4 BK167.out 0).trans rfl) (fun hHeld=> ?_);generalize wc.drew=w19 at BK167 HB hHeld ⊢;refine pV 0 22 ?_;refine tV 2 24 hHeld ?_;refine oV 1 (some 23) fun K hK=> ?_
    refine Qfe Try.func66 (by kernel_rfl) rfl #[.slice A1 l1.length c1] (by rfl) rfl rfl (by (try simp only [List.map_toArray,List.map_cons,List.map_nil]);first|done|rfl|(simp only [List.length_drop,List.length_take];rfl)) ?_
    with_reducible refine (Qc7.calls _ _ l1 t170 _ ?side1 ?side2 A15.out).mono ?_
    (case side1=>repeat (first|exact (Kd.C_below HR1.out HB.out)|(with_reducible refine Kd.C_alloc ?_ _)|(with_reducible refine Kd.C_drewN ?_ _)|(with_reducible refine Kd.C_drew ?_)))
    (case side2=>exact HC1.out)
    rintro e w20 ⟨v171,rfl,ho0,hb⟩;refine ⟨_,rfl,?_⟩;have HO172:=Zk (Kd.R_lower ho0 (Qh (vB HB)));replace BK167:=Zk (Qd (uK BK167) hb);replace HB:=Zk (Qc (vB HB) hb)
    skip
    skip
    skip
    skip
    skip
    refine hK.out _ _ ((Qb4 BK167.out 0).trans rfl) (fun hHeld=> ?_);clear hK K;refine nU 23 ?_;refine oV 3 (some 25) fun K hK=> ?_
    refine Qfe Try.func65 (by kernel_rfl) rfl #[.agg #[.slice A0_0 l0_0.length c0_0]] (by rfl) rfl rfl (by (try simp only [List.map_toArray,List.map_cons,List.map_nil]);first|done|rfl|(simp only [List.length_drop,List.length_take];rfl)) ?_
    with_reducible refine (Qb1.calls _ _ l0_0 t173 _ ?side1 ?side2 A16.out).mono ?_
    (case side1=>repeat (first|exact (Kd.C_below HR0_0.out HB.out)|(with_reducible refine Kd.C_alloc ?_ _)|(with_reducible refine Kd.C_drewN ?_ _)|(with_reducible refine Kd.C_drew ?_)))
    (case side2=>exact HC0_0.out)
    rintro e w21 ⟨rfl,hb⟩;refine ⟨_,rfl,?_⟩;replace HO172:=Zk (Kd.R_below (uR HO172) hb);replace BK167:=Zk (Qd (uK BK167) hb);replace HB:=Zk (Qc (vB HB) hb)
    skip
    skip
    skip
    skip
    refine hK.out _ _ ((Qb4 BK167.out 0).trans rfl) (fun hHeld=> ?_);clear hK K;refine nU 25 ?_;refine oV 4 (some 26) fun K hK=> ?_
    refine Qfe Try.func64 (by kernel_rfl) rfl #[.int .i64 t173] (by rfl) rfl rfl (by (try simp only [List.map_toArray,List.map_cons,List.map_nil]);first|done|rfl|(simp only [List.length_drop,List.length_take];rfl)) ?_
    with_reducible refine (Qca.calls kj4 t173 t174 _ A17.out).mono ?_
    rintro e w22 ⟨v175,rfl,ho0,hb⟩;refine ⟨_,rfl,?_⟩;have HO176:=Zk (Kd.R_lower (Kd.R_new' ho0 (Kd.R_lt (uR HO172))) (Qh (vB HB)));replace HO172:=Zk (Kd.R_elder' (uR HO172) (Kd.R_base ho0) hb);replace BK167:=Zk (Qd (uK BK167) hb);replace HB:=Zk (Qc (vB HB) hb)
    skip
    skip
    skip
    skip
    skip
    refine hK.out _ _ ((Qb4 BK167.out 0).trans rfl) (fun hHeld=> ?_);clear hK K;refine nU 26 ?_;refine pV 5 10 ?_;refine pV 6 11 ?_;refine done_ (by kernel_rfl) ?_
    go_upto_if 28 with (fail)
    go_cut [] (fun wc=> ∃ (kq:Nat) (x11_17:List Int),Z0 (Qu.j1 kq a2 a3 t170 x11_17 l0_0=some (r1,r2))∧Z0 (kq≤kj4)∧Z0 (Kd.R (Kd.int .i64) 3 wc w.heap.size (fun k_=>some k_≠(v175:Value).ownBlock) v171 t170)∧Z0 (Kd.R (Kd.int .i64) 3 wc w.heap.size (fun k_=>some k_≠(v171:Value).ownBlock) v175 x11_17)∧Z0 (wc.heap[gb167]? =some (.cells #[(.slice A0_0 l0_0.length c0_0)] 26 (0,0)))∧Z0 (Below w.heap.size w wc))
    case first=>
     have H:=HC18.out;clear HC18
     by_cases c23:a3>0
     ·
      rw [if_pos c23] at H;have c23b0:=decide_eq_true c23;clear c23
      (first|rw [c23b0] |(simp only [Qci,Qdb];rw [c23b0])|skip)
      obtain ⟨t177,A24,H⟩:=bs H;(try dsimp only at H)
      have H':=Zk H;clear H;obtain ⟨Ao25,co25,eo25⟩:=Kd.R_slice HO176.out;subst eo25;go_wp2_with (first|(refine gA (some 30) Try.func93 #[.slice Ao25 t174.length co25] ?_;(with_reducible refine (Qs.calls kj4 (fun k_=>some k_=(.slice Ao25 t174.length co25:Value).ownBlock) (.slice Ao25 t174.length co25) t174 t177 w _ (vB HB) ?side2 A24.out).mono ?_);(case side2=>exact Kd.R_tight rfl HO176.out);rintro e w26 ⟨rfl,hy0,hb,hkp⟩;refine ⟨_,rfl,?_⟩;replace BK167:=Zk (Qjh (uK BK167) hkp (fun hs_=>(fun e_=>(Kd.R_ne HO176.out BK167.out (by decide)) e_) hs_));replace HO172:=Zk (Kd.R_mono (ok':=fun k_=>some k_≠(.slice Ao25 t174.length co25:Value).ownBlock) (Kd.R_keptB (HO172.out) hkp (fun k_ hk_ hs_=>(hk_.2) hs_)) (fun k_ hk_=>hk_.1.2));replace HO176:=Zk (Kd.R_reok rfl hy0 (fun k_ e_=>HO176.out.1 k_ e_));replace HB:=Zk (hb);(try clear hb);(try clear hkp);(try clear hy0)))
      go_meet
      case rel=>exact ⟨_,(t177),H',⟨by have:=HJ4.out;first|omega|exact Nat.le_refl _⟩,⟨uR HO172⟩,⟨Kd.R_mono (uR HO176) (fun _ hk=>hk.2)⟩,⟨uK BK167⟩,⟨(vB HB)⟩⟩
     ·
      rw [if_neg c23] at H;have c23b0:=decide_eq_false c23;clear c23
      (first|rw [c23b0] |(simp only [Qci,Qdb];rw [c23b0])|skip)
      have H':=Zk H;clear H;go_wp2
      go_meet
      case rel=>exact ⟨_,(t174),H',⟨by have:=HJ4.out;first|omega|exact Nat.le_refl _⟩,⟨Kd.R_mono (uR HO172) (fun _ hk=>hk.2)⟩,⟨Kd.R_mono (uR HO176) (fun _ hk=>hk.2)⟩,⟨uK BK167⟩,⟨(vB HB)⟩⟩
    case rest=>
     clear HC18
     skip
     obtain ⟨kq,x11_17,HA,HJ17,HO_10,HO_11,BK167,HB⟩:=hcut;cases kq with
     |zero=>exact absurd HA.out (by simp [Qu.j1])
     |succ kj17=>
      have H:=HA.out;clear HA;simp only [Qu.j1] at H;obtain ⟨ji27,hji27⟩: ∃ j_:Int,(mx a3 (wrap64 (-a3)))=j_:=⟨_,rfl⟩
      replace H:(Qu.l0 kj17 a2 t170 x11_17 ji27 0 l0_0)=some (r1,r2):=by first|(rw [hji27] at H;exact H)|(simp only [hji27] at H ⊢;exact H)
      have hji27_:(if a3<(wrap64 (-a3)) then (wrap64 (-a3)) else a3)=ji27:=hji27;have H':=Zk H;clear H;go_wp2
      go_loopg [35] kj17 (fun kq v35 w'=> ∃ (x10_3:List Int) (x35_3:Int),v35= .int .i64 x35_3∧Z0 (Qu.l0 kq a2 x10_3 x11_17 ji27 x35_3 l0_0=some (r1,r2))∧Z0 (kq≤kj17)∧Z0 (Kd.R (Kd.int .i64) 3 w' w.heap.size (fun k_=>some k_≠(v175:Value).ownBlock) v171 x10_3)∧Z0 (Kd.R (Kd.int .i64) 3 w' w.heap.size (fun k_=>some k_≠(v171:Value).ownBlock) v175 x11_17)∧Z0 (w'.heap[gb167]? =some (.cells #[(.slice A0_0 l0_0.length c0_0)] 26 (0,0)))∧Z0 (Below w.heap.size w w'))
      case atStart=>exact ⟨(t170),(0),(by first|rfl|(simp;done)|(simp [*];done)),H',⟨Nat.le_refl _⟩,⟨uR HO_10⟩,⟨uR HO_11⟩,⟨uK BK167⟩,⟨(vB HB)⟩⟩
      case round=>
       clear H'
       skip
       obtain ⟨x10_3,x35_3,rfl,HA,HK3,HO_10,HO_11,BK167,HB⟩:=hrel;cases gk with
       |zero=>exact absurd HA.out (by simp [Qu.l0])
       |succ k3=>
        have H:=HA.out;clear HA;simp only [Qu.l0] at H
        by_cases c28:x35_3<ji27
        ·
         rw [if_pos c28] at H;have c28b0:=decide_eq_true c28;clear c28;obtain ⟨t178,A29,H⟩:=bs H;(try dsimp only at H)
         have H':=Zk H;clear H;have hcz30_0:=bC BK167;have hfz30_0:=Qg BK167.out 0;obtain ⟨Ao31,co31,eo31⟩:=Kd.R_slice HO_10.out;subst eo31;obtain ⟨Ao32,co32,eo32⟩:=Kd.R_slice HO_11.out;subst eo32;go_wp2_with (first|(refine gA (some 41) Try.func68 #[.agg #[.slice A0_0 l0_0.length c0_0], .slice Ao31 x10_3.length co31, .int .i64 a2, .slice Ao32 x11_17.length co32] ?_;(with_reducible refine (Qb3.calls k3 _ _ l0_0 (fun k_=>some k_=(.slice Ao31 x10_3.length co31:Value).ownBlock) (.slice Ao31 x10_3.length co31) x10_3 a2 _ _ x11_17 t178 w _ (vB HB) ?side2 HC0_0.out ?side4 ?side5 ?side6 A29.out).mono ?_);(case side2=>exact Kd.C_kept_came (Kd.heap_int .i64) HR0_0.out (vB HB) (fun k_ hs_=>(fun e_=>Kd.R_base HO_10.out k_ e_.symm) hs_));(case side4=>exact Kd.R_tight rfl HO_10.out);(case side5=>exact Kd.C_kept_own (HO_11.out) (fun k_ hk_ hs_=>(hk_) hs_));(case side6=>exact (Kd.R_reads' HO_11.out).2.1);rintro e w33 ⟨rfl,hy0,hb,hkp⟩;refine ⟨_,rfl,?_⟩;replace HO_11:=Zk (Kd.R_mono (ok':=fun k_=>some k_≠(.slice Ao31 x10_3.length co31:Value).ownBlock) (Kd.R_keptB (HO_11.out) hkp (fun k_ hk_ hs_=>(hk_) hs_)) (fun k_ hk_=>hk_.1));replace BK167:=Zk (Qjh (uK BK167) hkp (fun hs_=>(fun e_=>(Kd.R_ne HO_10.out BK167.out (by decide)) e_) hs_));replace HO_10:=Zk (Kd.R_reok rfl hy0 (fun k_ e_=>HO_10.out.1 k_ e_));replace HB:=Zk (hb);(try clear hb);(try clear hkp);(try clear hy0)));go_roundg k3
         case measure=>have:=HJ4.out;have:=HJ17.out;have:=HK3.out;omega
         case rel=>exact ⟨(t178),(wrap64 (x35_3+1)),(by first|rfl|(simp;done)|(simp [*];done)),H',⟨by have:=HJ4.out;have:=HJ17.out;have:=HK3.out;omega⟩,⟨uR HO_10⟩,⟨uR HO_11⟩,⟨uK BK167⟩,⟨(vB HB)⟩⟩
        ·
         rw [if_neg c28] at H;have c28b0:=decide_eq_false c28;clear c28;simp only [Option.some.injEq,Prod.mk.injEq] at H;obtain ⟨rfl,rfl⟩:=H;go_wp2
         go_ret2
         exact ⟨_,by first|rfl|(simp [Qe,Qf] <;>rfl)|(simp only [←hji27];first|rfl|(simp [Qe,Qf] <;>rfl))|(simp [*,Qe,Qf] <;>rfl),Kd.R_mono (uR HO_10) (fun _ hk=>trivial),(vB HB)⟩
def Qdw.f (k:Nat) (l0_0:List Int) (l1:List Int) (a2:Int):Option (List Int × Bool):=(Qu.f k l0_0 l1 a2 1).bind fun bt180=>(some (bt180.1,bt180.2))
theorem Qdw.mono: ∀ a0 a1 a2 k,LeO (Qdw.f k a0 a1 a2) (Qdw.f (k+1) a0 a1 a2):=by
 intro a0 a1 a2 k;unfold Qdw.f
 repeat' (with_reducible first|apply Qu.mono|exact LeO.refl _|exact LeO.none _|refine LeO.ite ?_ ?_|refine LeO.bind ?_ (fun _=> ?_))
set_option maxHeartbeats 8000000 in
set_option maxRecDepth 100000 in
theorem Qdw.calls (k:Nat) (A0_0:Option Addr) (c0_0:Nat) (l0_0:List Int) (A1:Option Addr) (c1:Nat) (l1:List Int) (a2:Int) (r1:List Int) (r2:Bool) (w:World) (hr0_0:Kd.C (Kd.int .i64) w A0_0 l0_0.length l0_0) (hc0_0:l0_0.length≤c0_0) (hr1:Kd.C (Kd.int .i64) w A1 l1.length l1) (hc1:l1.length≤c1) (h:Qdw.f k l0_0 l1 a2=some (r1,r2)):
 Calls Try.prog 11 #[.agg #[.slice A0_0 l0_0.length c0_0], .slice A1 l1.length c1, .int .i64 a2] w fun e w'=> ∃ v0_:Value,e= .returned (.tuple #[v0_, .bool r2])∧Kd.R (Kd.int .i64) 3 w' w.heap.size (fun _=>True) v0_ r1∧Below w.heap.size w w':=by
 have hu26:=Try.underlying26;have HR0_0:=Zk hr0_0;have HC0_0:=Zk hc0_0;clear hr0_0 hc0_0;have HR1:=Zk hr1;have HC1:=Zk hc1;clear hr1 hc1;have HB:=Zk (Below.refl w.heap.size w);have H:((Qu.f k l0_0 l1 a2 1).bind fun bt180=>(some (bt180.1,bt180.2)))=some (r1,r2):=h;clear h;obtain ⟨⟨t180,t183⟩,A4,H⟩:=bs H;(try dsimp only at H)
 simp only [Option.some.injEq,Prod.mk.injEq] at H;obtain ⟨rfl,rfl⟩:=H;go_enter Try.func11,Try.ntmps11;go_wp2_with (first|(refine bE (N:=3) (cs:= #[.slice A0_0 l0_0.length c0_0]) (t:=26) ?_;intro gb179 hg w5 hbox hb;have BK179:=Zk (hbox);have GW179:=Zk ((by rw [hg];exact (Qh (uB HB)):w.heap.size≤gb179));have GE179:=GW179;replace HB:=Zk (Qc (uB HB) hb);clear hb hbox hg;have hcz6_0:=bC BK179;have hfz6_0:=Qg BK179.out 0)|(refine gA (some 11) Try.func33 #[.agg #[.slice A0_0 l0_0.length c0_0], .slice A1 l1.length c1, .int .i64 a2, .int .i64 1] ?_;(with_reducible refine (Qu.calls k _ _ l0_0 _ _ l1 a2 1 t180 t183 _ (uD HR0_0 HB) HC0_0.out (uD HR1 HB) HC1.out A4.out).mono ?_);rintro e w7 ⟨v181,rfl,ho0,hb⟩;refine ⟨_,rfl,?_⟩;have HO182:=Zk (Kd.R_lower ho0 (Qh (vB HB)));replace BK179:=Zk (Qd (uK BK179) hb);replace HB:=Zk (Qc (vB HB) hb);(try clear hb ho0)))
 go_ret2
 exact ⟨_,by first|rfl|(simp [Qe,Qf] <;>rfl)|(simp [*,Qe,Qf] <;>rfl),uR HO182,(vB HB)⟩
def Qd0.f (k:Nat) (l0_0:List Int) (l1:List Int) (a2:Int):Option (Bool × Bool):=(Qcj.f k l0_0 a2).bind fun t185=>(if t185=true then ((Qb1.f l0_0).bind fun t186=>(if (l1.length:Int)=t186 then ((Qt.f k l0_0 l1 a2 0).bind fun t187=>(some (t187,true))) else (some (false,false)))) else (some (false,false)))
theorem Qd0.mono: ∀ a0 a1 a2 k,LeO (Qd0.f k a0 a1 a2) (Qd0.f (k+1) a0 a1 a2):=by
 intro a0 a1 a2 k;unfold Qd0.f
 repeat' (with_reducible first|apply Qt.mono|apply Qcj.mono|exact LeO.refl _|exact LeO.none _|refine LeO.ite ?_ ?_|refine LeO.bind ?_ (fun _=> ?_))
set_option maxHeartbeats 8000000 in
set_option maxRecDepth 100000 in
theorem Qd0.calls (k:Nat) (A0_0:Option Addr) (c0_0:Nat) (l0_0:List Int) (A1:Option Addr) (c1:Nat) (l1:List Int) (a2:Int) (r1:Bool) (r2:Bool) (w:World) (hr0_0:Kd.C (Kd.int .i64) w A0_0 l0_0.length l0_0) (hc0_0:l0_0.length≤c0_0) (hr1:Kd.C (Kd.int .i64) w A1 l1.length l1) (hc1:l1.length≤c1) (h:Qd0.f k l0_0 l1 a2=some (r1,r2)):
 Calls Try.prog 17 #[.agg #[.slice A0_0 l0_0.length c0_0], .slice A1 l1.length c1, .int .i64 a2] w fun e w'=>e= .returned (.tuple #[.bool r1, .bool r2])∧Below w.heap.size w w':=by
 have hu26:=Try.underlying26;have HR0_0:=Zk hr0_0;have HC0_0:=Zk hc0_0;clear hr0_0 hc0_0;have HR1:=Zk hr1;have HC1:=Zk hc1;clear hr1 hc1;have HB:=Zk (Below.refl w.heap.size w);have H:((Qcj.f k l0_0 a2).bind fun t185=>(if t185=true then ((Qb1.f l0_0).bind fun t186=>(if (l1.length:Int)=t186 then ((Qt.f k l0_0 l1 a2 0).bind fun t187=>(some (t187,true))) else (some (false,false)))) else (some (false,false))))=some (r1,r2):=h;clear h;obtain ⟨t185,A4,H⟩:=bs H;(try dsimp only at H)
 by_cases c5:t185=true
 ·
  subst c5;rw [if_pos rfl] at H;obtain ⟨t186,A6,H⟩:=bs H;(try dsimp only at H)
  by_cases c7:(l1.length:Int)=t186
  ·
   rw [if_pos c7] at H;have c7b0:((l1.length:Int)==t186)=true:=beq_iff_eq.mpr c7;have c7b1:((l1.length:Int) !=t186)=false:=bne_eq_false_iff_eq.mpr c7;clear c7;obtain ⟨t187,A8,H⟩:=bs H;(try dsimp only at H)
   simp only [Option.some.injEq,Prod.mk.injEq] at H;obtain ⟨rfl,rfl⟩:=H;go_enter Try.func17,Try.ntmps17;go_wp2_with (first|((with_reducible refine Qb2 (N:=3) rfl ?_);(try (refine Qcx (by rfl) ?_;dsimp only));refine bE (N:=3) (cs:= #[.slice A0_0 l0_0.length c0_0]) (t:=26) ?_;intro gb184 hg w9 hbox hb;have BK184:=Zk (hbox);have GW184:=Zk ((by rw [hg];exact (Qh (uB HB)):w.heap.size≤gb184));have GE184:=GW184;replace HB:=Zk (Qc (uB HB) hb);clear hb hbox hg;have hcz10_0:=bC BK184;have hfz10_0:=Qg BK184.out 0)|(refine gA (some 10) Try.func77 #[.agg #[.slice A0_0 l0_0.length c0_0], .int .i64 a2] ?_;(with_reducible refine (Qcj.calls k _ _ l0_0 a2 true _ (uD HR0_0 HB) HC0_0.out A4.out).mono ?_);rintro e w11 ⟨rfl,hb⟩;refine ⟨_,rfl,?_⟩;replace BK184:=Zk (Qd (uK BK184) hb);replace HB:=Zk (Qc (vB HB) hb);(try clear hb);have hcz12_0:=bC BK184;have hfz12_0:=Qg BK184.out 0)|(go_at_call 65;(with_reducible refine (Qb1.calls _ _ l0_0 t186 _ (uD HR0_0 HB) HC0_0.out A6.out).mono ?_);rintro e w13 ⟨rfl,hb⟩;replace BK184:=Zk (Qd (uK BK184) hb);replace HB:=Zk (Qc (vB HB) hb);(try clear hb);have hcz14_0:=bC BK184;have hfz14_0:=Qg BK184.out 0)|(refine gA (some 22) Try.func78 #[.agg #[.slice A0_0 l0_0.length c0_0], .slice A1 l1.length c1, .int .i64 a2, .int .i64 0] ?_;(with_reducible refine (Qt.calls k _ _ l0_0 _ _ l1 a2 0 t187 _ (uD HR0_0 HB) HC0_0.out (uD HR1 HB) HC1.out A8.out).mono ?_);rintro e w15 ⟨rfl,hb⟩;refine ⟨_,rfl,?_⟩;replace BK184:=Zk (Qd (uK BK184) hb);replace HB:=Zk (Qc (vB HB) hb);(try clear hb)))
   go_ret2
   exact ⟨by first|rfl|(simp [Qe,Qf] <;>rfl)|(simp [*,Qe,Qf] <;>rfl),(vB HB)⟩
  ·
   rw [if_neg c7] at H;have c7b0:((l1.length:Int)==t186)=false:=beq_eq_false_iff_ne.mpr c7;have c7b1:((l1.length:Int) !=t186)=true:=bne_iff_ne.mpr c7;simp only [Option.some.injEq,Prod.mk.injEq] at H;obtain ⟨rfl,rfl⟩:=H;go_enter Try.func17,Try.ntmps17;go_wp2_with (first|((with_reducible refine Qb2 (N:=3) rfl ?_);(try (refine Qcx (by rfl) ?_;dsimp only));refine bE (N:=3) (cs:= #[.slice A0_0 l0_0.length c0_0]) (t:=26) ?_;intro gb184 hg w16 hbox hb;have BK184:=Zk (hbox);have GW184:=Zk ((by rw [hg];exact (Qh (uB HB)):w.heap.size≤gb184));have GE184:=GW184;replace HB:=Zk (Qc (uB HB) hb);clear hb hbox hg;have hcz17_0:=bC BK184;have hfz17_0:=Qg BK184.out 0)|(refine gA (some 10) Try.func77 #[.agg #[.slice A0_0 l0_0.length c0_0], .int .i64 a2] ?_;(with_reducible refine (Qcj.calls k _ _ l0_0 a2 true _ (uD HR0_0 HB) HC0_0.out A4.out).mono ?_);rintro e w18 ⟨rfl,hb⟩;refine ⟨_,rfl,?_⟩;replace BK184:=Zk (Qd (uK BK184) hb);replace HB:=Zk (Qc (vB HB) hb);(try clear hb);have hcz19_0:=bC BK184;have hfz19_0:=Qg BK184.out 0)|(go_at_call 65;(with_reducible refine (Qb1.calls _ _ l0_0 t186 _ (uD HR0_0 HB) HC0_0.out A6.out).mono ?_);rintro e w20 ⟨rfl,hb⟩;replace BK184:=Zk (Qd (uK BK184) hb);replace HB:=Zk (Qc (vB HB) hb);(try clear hb)))
   go_ret2
   exact ⟨by first|rfl|(simp [Qe,Qf] <;>rfl)|(simp [*,Qe,Qf] <;>rfl),(vB HB)⟩
 ·
  replace c5:=Bool.eq_false_iff.mpr c5;subst c5;rw [if_neg (show ¬ (false=true) by decide)] at H;simp only [Option.some.injEq,Prod.mk.injEq] at H;obtain ⟨rfl,rfl⟩:=H;go_enter Try.func17,Try.ntmps17;go_wp2_with (first|((with_reducible refine Qb2 (N:=3) rfl ?_);(try (refine Qcx (by rfl) ?_;dsimp only));refine bE (N:=3) (cs:= #[.slice A0_0 l0_0.length c0_0]) (t:=26) ?_;intro gb184 hg w21 hbox hb;have BK184:=Zk (hbox);have GW184:=Zk ((by rw [hg];exact (Qh (uB HB)):w.heap.size≤gb184));have GE184:=GW184;replace HB:=Zk (Qc (uB HB) hb);clear hb hbox hg;have hcz22_0:=bC BK184;have hfz22_0:=Qg BK184.out 0)|(refine gA (some 10) Try.func77 #[.agg #[.slice A0_0 l0_0.length c0_0], .int .i64 a2] ?_;(with_reducible refine (Qcj.calls k _ _ l0_0 a2 false _ (uD HR0_0 HB) HC0_0.out A4.out).mono ?_);rintro e w23 ⟨rfl,hb⟩;refine ⟨_,rfl,?_⟩;replace BK184:=Zk (Qd (uK BK184) hb);replace HB:=Zk (Qc (vB HB) hb);(try clear hb)))
  go_ret2
  exact ⟨by first|rfl|(simp [Qe,Qf] <;>rfl)|(simp [*,Qe,Qf] <;>rfl),(vB HB)⟩
def Qa (w0 W:World) (g:Nat) (f0:List Int) (f1:Int) (f2:Int):Prop:= ∃ A0 c0,W.heap[g]? =some (.cells #[.slice A0 f0.length c0, .int .i64 f1, .int .u64 f2] 67 (0,0))∧w0.heap.size≤g∧Kd.C (Kd.int .u8) w0 A0 f0.length f0
theorem Qa.grown {w0 W:World} {g:Nat} {f0:List Int} {f1:Int} {f2:Int} {W1:World} {row:Option Nat} (h:Qa w0 W g f0 f1 f2) (hw:W.grownBy W1 row) (hne:some g≠row):Qa w0 W1 g f0 f1 f2:=by
 obtain ⟨A0,c0,hb,hg,hr0⟩:=h;exact ⟨A0,c0,Qb8 hb hw hne,hg,hr0⟩
theorem Qa.own_neN {w0 W:World} {g:Nat} {f0:List Int} {f1:Int} {f2:Int} {α:Type} {d:Kd α} {e:Nat} {base:Nat} {ok:Nat→Prop} {v:Value} {xs:List α} (h:Qa w0 W g f0 f1 f2) (ho:Kd.N d e W base ok v xs) (ht:e≠67):some g≠v.ownBlock:=by
 obtain ⟨A0,c0,hb,hg,hr0⟩:=h;exact Kd.N_ne ho hb ht
theorem Qa.fresh {w0 W:World} {g:Nat} {f0:List Int} {f1:Int} {f2:Int} (h:Qa w0 W g f0 f1 f2): ∀ k,W.heap.size≤k→k≠g:=by
 obtain ⟨A0,c0,hb,hg,hr0⟩:=h;exact Kd.freshB hb
theorem Qa.kept {w0 W:World} {g:Nat} {f0:List Int} {f1:Int} {f2:Int} {W1:World} {S:Nat→Prop} (h:Qa w0 W g f0 f1 f2) (hk:Kept W W1 S) (hne: ¬ S g):Qa w0 W1 g f0 f1 f2:=by
 obtain ⟨A0,c0,hb,hg,hr0⟩:=h;exact ⟨A0,c0,Qjh hb hk hne,hg,hr0⟩
theorem Qa.below {w0 W:World} {g:Nat} {f0:List Int} {f1:Int} {f2:Int} {W1:World} (h:Qa w0 W g f0 f1 f2) (hw:Below W.heap.size W W1):Qa w0 W1 g f0 f1 f2:=h.grown (Qho hw none) (by simp)
theorem Qa.u {w0 W:World} {g:Nat} {f0:List Int} {f1:Int} {f2:Int} {W1:World} (h:Z0 (Qa w0 W g f0 f1 f2)) [l:Go.Proofs.Ytkgngggppcmpfaa.X.Ltr W W1] :Qa w0 W1 g f0 f1 f2:=Qa.below h.out l.out
theorem Qa.alloc {w0 W:World} {g:Nat} {f0:List Int} {f1:Int} {f2:Int} (h:Qa w0 W g f0 f1 f2) (o:Obj):Qa w0 (W.alloc o) g f0 f1 f2:=h.below (Qq (Below.refl _ _) o)
theorem Qa.drewN {w0 W:World} {g:Nat} {f0:List Int} {f1:Int} {f2:Int} (h:Qa w0 W g f0 f1 f2) (m:Nat):Qa w0 (W.drewN m) g f0 f1 f2:=h
theorem Qa.drew {w0 W:World} {g:Nat} {f0:List Int} {f1:Int} {f2:Int} (h:Qa w0 W g f0 f1 f2):Qa w0 W.drew g f0 f1 f2:=h
theorem Qa.at_ {w0 W:World} {g:Nat} {f0:List Int} {f1:Int} {f2:Int} {w':World} {m:Nat} (hq:W.drewN m=w') (h:Qa w0 W g f0 f1 f2):Qa w0 w' g f0 f1 f2:=by subst hq;exact Qa.drewN h m
theorem Qa.apart {w0 W:World} {g:Nat} {f0:List Int} {f1:Int} {f2:Int} {α:Type} {d:Kd α} {e:Nat} {base:Nat} {ok:Nat→Prop} {v:Value} {xs:List α} (h:Qa w0 W g f0 f1 f2) (ho:d.R e W base ok v xs) (ht: ∀ q,q ∈ e::d.E→q≠67):d.R e W base (fun k=>ok k∧k≠g) v xs:=by
 obtain ⟨A0,c0,hb,hg,hr0⟩:=h;exact Kd.R_types ho hb ht
theorem Qa.own_ne {w0 W:World} {g:Nat} {f0:List Int} {f1:Int} {f2:Int} {α:Type} {d:Kd α} {e:Nat} {base:Nat} {ok:Nat→Prop} {v:Value} {xs:List α} (h:Qa w0 W g f0 f1 f2) (ho:d.R e W base ok v xs) (ht:e≠67):some g≠v.ownBlock:=by
 obtain ⟨A0,c0,hb,hg,hr0⟩:=h;exact Kd.R_ne ho hb ht
theorem Qa.apartQ {w0 W:World} {g:Nat} {f0:List Int} {f1:Int} {f2:Int} {α:Type} {d:Kd α} {e:Nat} {base:Nat} {ok:Nat→Prop} {v:Value} {xs:List α} (h:Qa w0 W g f0 f1 f2) (ho:d.Q e W base ok v xs) (ht: ∀ q,q ∈ e::d.E→q≠67):d.Q e W base (fun k=>ok k∧k≠g) v xs:=by
 obtain ⟨A0,c0,hb,hg,hr0⟩:=h;exact Kd.Q_types ho hb ht
theorem Qa.own_neQ {w0 W:World} {g:Nat} {f0:List Int} {f1:Int} {f2:Int} {α:Type} {d:Kd α} {e:Nat} {base:Nat} {ok:Nat→Prop} {v:Value} {xs:List α} (h:Qa w0 W g f0 f1 f2) (ho:d.Q e W base ok v xs) (ht:e≠67):some g≠v.ownBlock:=by
 obtain ⟨A0,c0,hb,hg,hr0⟩:=h;exact Kd.Q_ne ho hb ht
theorem Qa.apartS {w0 W:World} {g:Nat} {f0:List Int} {f1:Int} {f2:Int} {α:Type} {d:Kd α} {e:Nat} {base:Nat} {ok:Nat→Prop} {v:Value} {xs:List α} (h:Qa w0 W g f0 f1 f2) (ho:d.S e W base ok v xs) (ht: ∀ q,q ∈ e::d.E→q≠67):d.S e W base (fun k=>ok k∧k≠g) v xs:=by
 obtain ⟨A0,c0,hb,hg,hr0⟩:=h;exact Kd.S_types ho hb ht
theorem Qa.own_neS {w0 W:World} {g:Nat} {f0:List Int} {f1:Int} {f2:Int} {α:Type} {d:Kd α} {e:Nat} {base:Nat} {ok:Nat→Prop} {v:Value} {xs:List α} (h:Qa w0 W g f0 f1 f2) (ho:d.S e W base ok v xs) (ht:e≠67):some g≠v.ownBlock:=by
 obtain ⟨A0,c0,hb,hg,hr0⟩:=h;exact Kd.S_ne ho hb ht
theorem Qa.lt {w0 W:World} {g:Nat} {f0:List Int} {f1:Int} {f2:Int} (h:Qa w0 W g f0 f1 f2):g<W.heap.size:=by
 obtain ⟨A0,c0,hb,hg,hr0⟩:=h;exact Qb9 hb
theorem Qa.ge {w0 W:World} {g:Nat} {f0:List Int} {f1:Int} {f2:Int} (h:Qa w0 W g f0 f1 f2):w0.heap.size≤g:=by
 obtain ⟨A0,c0,hb,hg,hr0⟩:=h;exact hg
theorem Qa.ne_blk {w0 W:World} {g:Nat} {f0:List Int} {f1:Int} {f2:Int} {a:Nat} {cs:Array Value} {t:TypeId} {fr:Nat × Nat} (h:Qa w0 W g f0 f1 f2) (hb2:W.heap[a]? =some (.cells cs t fr)) (ht:t≠67):g≠a:=by
 obtain ⟨A0,c0,hb,hg,hr0⟩:=h;rintro rfl;rw [hb] at hb2;injection hb2 with hb2
 injection hb2 with _ ht2
 exact ht ht2.symm
theorem Qa.far {w0 W:World} {g:Nat} {f0:List Int} {f1:Int} {f2:Int} {p:Addr} (h:Qa w0 W g f0 f1 f2) (hne:g≠p.block) (u:Value):Qa w0 (W.setCell p u) g f0 f1 f2:=by
 obtain ⟨A0,c0,hb,hg,hr0⟩:=h;exact ⟨A0,c0,Qdf hb hne u,hg,hr0⟩
theorem Qhb {W:World} {g:Nat} {A0:Option Addr} {c0:Nat} {f0:List Int} {f1:Int} {f2:Int} (h:W.heap[g]? =some (.cells #[.slice A0 f0.length c0, .int .i64 f1, .int .u64 f2] 67 (0,0))):W.cell? ⟨g,0,none⟩=some (.slice A0 f0.length c0):=(Qb4 h 0).trans rfl
theorem Qhc {W:World} {g:Nat} {A0:Option Addr} {c0:Nat} {f0:List Int} {f1:Int} {f2:Int} (h:W.heap[g]? =some (.cells #[.slice A0 f0.length c0, .int .i64 f1, .int .u64 f2] 67 (0,0))):W.cell? ⟨g,1,none⟩=some (.int .i64 f1):=(Qb4 h 1).trans rfl
theorem Qa.set_1 {w0 W:World} {g:Nat} {f0:List Int} {f1:Int} {f2:Int} (h:Qa w0 W g f0 f1 f2) (x:Int):Qa w0 (W.setCell ⟨g,1,none⟩ (.int .i64 x)) g f0 x f2:=by
 obtain ⟨A0,c0,hb,hg,hr0⟩:=h;exact ⟨A0,c0,by simpa using Qky hb 1 (.int .i64 x),hg,hr0⟩
theorem Qhd {W:World} {g:Nat} {A0:Option Addr} {c0:Nat} {f0:List Int} {f1:Int} {f2:Int} (h:W.heap[g]? =some (.cells #[.slice A0 f0.length c0, .int .i64 f1, .int .u64 f2] 67 (0,0))):W.cell? ⟨g,2,none⟩=some (.int .u64 f2):=(Qb4 h 2).trans rfl
theorem Qa.set_2 {w0 W:World} {g:Nat} {f0:List Int} {f1:Int} {f2:Int} (h:Qa w0 W g f0 f1 f2) (x:Int):Qa w0 (W.setCell ⟨g,2,none⟩ (.int .u64 x)) g f0 f1 x:=by
 obtain ⟨A0,c0,hb,hg,hr0⟩:=h;exact ⟨A0,c0,by simpa using Qky hb 2 (.int .u64 x),hg,hr0⟩
theorem Qa.new (w0 W:World) (A0:Option Addr) (c0:Nat) (f0:List Int) (f1:Int) (f2:Int) (hB:Below w0.heap.size w0 W) (hr0:Kd.C (Kd.int .u8) w0 A0 f0.length f0):Qa w0 (W.alloc (.cells #[.slice A0 f0.length c0, .int .i64 f1, .int .u64 f2] 67)) W.heap.size f0 f1 f2:=⟨A0,c0,by simpa using heap_alloc_new W _,hB.size,hr0⟩
def Qdn.f (s0_0:List Int) (s0_1:Int) (s0_2:Int):Option (Int × Int × Int):=if s0_1<(s0_0.length:Int) then (if 0≤s0_1 then (if (wrap64 (s0_1+1))≤(s0_0.length:Int) then (some (wrap64 (rd s0_0 s0_1),wrap64 (s0_1+1),IntKind.u64.wrap ((IntKind.u64.wrap ((IntKind.u64.wrap (s0_2*6364136223846793005))+(IntKind.u64.wrap (wrap64 (rd s0_0 s0_1)))))+1442695040888963407))) else (some (wrap64 (Go.bits .and .u64 ((IntKind.u64.wrap ((IntKind.u64.wrap ((IntKind.u64.wrap (s0_2*6364136223846793005))+(IntKind.u64.wrap (wrap64 (rd s0_0 s0_1)))))+1442695040888963407)) / 1099511627776) 255),wrap64 (s0_1+1),IntKind.u64.wrap ((IntKind.u64.wrap ((IntKind.u64.wrap (s0_2*6364136223846793005))+(IntKind.u64.wrap (wrap64 (rd s0_0 s0_1)))))+1442695040888963407)))) else (none)) else (if (wrap64 (s0_1+1))≤(s0_0.length:Int) then (some (0,wrap64 (s0_1+1),IntKind.u64.wrap ((IntKind.u64.wrap ((IntKind.u64.wrap (s0_2*6364136223846793005))+0))+1442695040888963407))) else (some (wrap64 (Go.bits .and .u64 ((IntKind.u64.wrap ((IntKind.u64.wrap ((IntKind.u64.wrap (s0_2*6364136223846793005))+0))+1442695040888963407)) / 1099511627776) 255),wrap64 (s0_1+1),IntKind.u64.wrap ((IntKind.u64.wrap ((IntKind.u64.wrap (s0_2*6364136223846793005))+0))+1442695040888963407))))
set_option maxHeartbeats 8000000 in
set_option maxRecDepth 100000 in
theorem Qdn.calls (g:Nat) (s0_0:List Int) (s0_1:Int) (s0_2:Int) (r1:Int) (r2:Int) (r3:Int) (w0 w:World) (hI:Qa w0 w g s0_0 s0_1 s0_2) (hB:Below w0.heap.size w0 w) (h:Qdn.f s0_0 s0_1 s0_2=some (r1,r2,r3)):
 Calls Try.prog 114 #[.pointer (some ⟨g,0,none⟩)] w fun e w'=>e= .returned (.int .i64 r1)∧Qa w0 w' g s0_0 r2 r3∧Below w0.heap.size w0 w'∧Qj w w' g none:=by
 have HI0:=Zk hI;have HK:=Zk (Qj.refl w g none);have HL:=Zk hB.size;clear hI;have HW0:=Zk hB.size;have HB:=Zk hB;clear hB;have H:(if s0_1<(s0_0.length:Int) then (if 0≤s0_1 then (if (wrap64 (s0_1+1))≤(s0_0.length:Int) then (some (wrap64 (rd s0_0 s0_1),wrap64 (s0_1+1),IntKind.u64.wrap ((IntKind.u64.wrap ((IntKind.u64.wrap (s0_2*6364136223846793005))+(IntKind.u64.wrap (wrap64 (rd s0_0 s0_1)))))+1442695040888963407))) else (some (wrap64 (Go.bits .and .u64 ((IntKind.u64.wrap ((IntKind.u64.wrap ((IntKind.u64.wrap (s0_2*6364136223846793005))+(IntKind.u64.wrap (wrap64 (rd s0_0 s0_1)))))+1442695040888963407)) / 1099511627776) 255),wrap64 (s0_1+1),IntKind.u64.wrap ((IntKind.u64.wrap ((IntKind.u64.wrap (s0_2*6364136223846793005))+(IntKind.u64.wrap (wrap64 (rd s0_0 s0_1)))))+1442695040888963407)))) else (none)) else (if (wrap64 (s0_1+1))≤(s0_0.length:Int) then (some (0,wrap64 (s0_1+1),IntKind.u64.wrap ((IntKind.u64.wrap ((IntKind.u64.wrap (s0_2*6364136223846793005))+0))+1442695040888963407))) else (some (wrap64 (Go.bits .and .u64 ((IntKind.u64.wrap ((IntKind.u64.wrap ((IntKind.u64.wrap (s0_2*6364136223846793005))+0))+1442695040888963407)) / 1099511627776) 255),wrap64 (s0_1+1),IntKind.u64.wrap ((IntKind.u64.wrap ((IntKind.u64.wrap (s0_2*6364136223846793005))+0))+1442695040888963407)))))=some (r1,r2,r3):=h;clear h
 by_cases c2:s0_1<(s0_0.length:Int)
 ·
  rw [if_pos c2] at H;have c2b0:=decide_eq_true c2;clear c2
  by_cases c3:0≤s0_1
  ·
   rw [if_pos c3] at H;have c3b0:=decide_eq_true c3;clear c3
   by_cases c4:(wrap64 (s0_1+1))≤(s0_0.length:Int)
   ·
    rw [if_pos c4] at H;have c4b0:=decide_eq_true c4;clear c4;simp only [Option.some.injEq,Prod.mk.injEq] at H;obtain ⟨rfl,rfl,rfl⟩:=H;obtain ⟨ASz5_0,cSz5_0,HGz5,hgz5,HSz5_0⟩:=HI0.out;have hcz5_0:=Qhb HGz5;have hcz5_1:=Qhc HGz5;have hcz5_2:=Qhd HGz5;have hfz5_1:=Qg HGz5 1;have hfz5_2:=Qg HGz5 2;clear HGz5 hgz5;have p190:0≤(s0_1:Int):=of_decide_eq_true (by first|(with_reducible assumption)|assumption);have q190:s0_1<(s0_0.length:Int):=of_decide_eq_true (by first|(with_reducible assumption)|assumption);obtain ⟨ad190,e190,hx190_0⟩:=Kd.at_int HSz5_0 s0_1 p190 q190;cases e190;replace hx190_0:=Qd7 HB.out hx190_0;replace p190:=eq_true p190;replace q190:=eq_true q190;go_enter Try.func114,Try.ntmps114;go_wp2
    repeat (go_quiet (fail);try go_wp2)
    go_ret
    (try simp only [Int.add_zero])
    exact ⟨by first|rfl|(simp [Qe,Qf] <;>rfl)|(simp [*,Qe,Qf] <;>rfl),by repeat (first|(with_reducible first|exact HI0.out|apply Qa.alloc|apply Qa.drewN|apply Qa.drew|apply Qa.set_1|apply Qa.set_2)|exact HI0.out),by repeat (first|(with_reducible first|exact HB.out|apply Qq|apply Qw|apply Qbb|refine Q1 ?_ (Qa.ge HI0.out))|exact HB.out),by repeat (first|(with_reducible first|exact HK.out|apply Qj.set_|apply Qgb|apply Qfc|apply Qga)|exact HK.out)⟩
   ·
    rw [if_neg c4] at H;have c4b0:=decide_eq_false c4;clear c4;simp only [Option.some.injEq,Prod.mk.injEq] at H;obtain ⟨rfl,rfl,rfl⟩:=H;obtain ⟨ASz6_0,cSz6_0,HGz6,hgz6,HSz6_0⟩:=HI0.out;have hcz6_0:=Qhb HGz6;have hcz6_1:=Qhc HGz6;have hcz6_2:=Qhd HGz6;have hfz6_1:=Qg HGz6 1;have hfz6_2:=Qg HGz6 2;clear HGz6 hgz6;have p190:0≤(s0_1:Int):=of_decide_eq_true (by first|(with_reducible assumption)|assumption);have q190:s0_1<(s0_0.length:Int):=of_decide_eq_true (by first|(with_reducible assumption)|assumption);obtain ⟨ad190,e190,hx190_0⟩:=Kd.at_int HSz6_0 s0_1 p190 q190;cases e190;replace hx190_0:=Qd7 HB.out hx190_0;replace p190:=eq_true p190;replace q190:=eq_true q190;go_enter Try.func114,Try.ntmps114;go_wp2
    repeat (go_quiet (fail);try go_wp2)
    go_ret
    (try simp only [Int.add_zero])
    exact ⟨by first|rfl|(simp [Qe,Qf] <;>rfl)|(simp [*,Qe,Qf] <;>rfl),by repeat (first|(with_reducible first|exact HI0.out|apply Qa.alloc|apply Qa.drewN|apply Qa.drew|apply Qa.set_1|apply Qa.set_2)|exact HI0.out),by repeat (first|(with_reducible first|exact HB.out|apply Qq|apply Qw|apply Qbb|refine Q1 ?_ (Qa.ge HI0.out))|exact HB.out),by repeat (first|(with_reducible first|exact HK.out|apply Qj.set_|apply Qgb|apply Qfc|apply Qga)|exact HK.out)⟩
  ·
   rw [if_neg c3] at H;exact absurd H (by simp)
 ·
  rw [if_neg c2] at H;have c2b0:=decide_eq_false c2;clear c2
  by_cases c7:(wrap64 (s0_1+1))≤(s0_0.length:Int)
  ·
   rw [if_pos c7] at H;have c7b0:=decide_eq_true c7;clear c7;simp only [Option.some.injEq,Prod.mk.injEq] at H;obtain ⟨rfl,rfl,rfl⟩:=H;obtain ⟨ASz8_0,cSz8_0,HGz8,hgz8,HSz8_0⟩:=HI0.out;have hcz8_0:=Qhb HGz8;have hcz8_1:=Qhc HGz8;have hcz8_2:=Qhd HGz8;have hfz8_1:=Qg HGz8 1;have hfz8_2:=Qg HGz8 2;clear HGz8 hgz8;go_enter Try.func114,Try.ntmps114;go_wp2
   repeat (go_quiet (fail);try go_wp2)
   go_ret
   (try simp only [Int.add_zero])
   exact ⟨by first|rfl|(simp [Qe,Qf] <;>rfl)|(simp [*,Qe,Qf] <;>rfl),by repeat (first|(with_reducible first|exact HI0.out|apply Qa.alloc|apply Qa.drewN|apply Qa.drew|apply Qa.set_1|apply Qa.set_2)|exact HI0.out),by repeat (first|(with_reducible first|exact HB.out|apply Qq|apply Qw|apply Qbb|refine Q1 ?_ (Qa.ge HI0.out))|exact HB.out),by repeat (first|(with_reducible first|exact HK.out|apply Qj.set_|apply Qgb|apply Qfc|apply Qga)|exact HK.out)⟩
  ·
   rw [if_neg c7] at H;have c7b0:=decide_eq_false c7;clear c7;simp only [Option.some.injEq,Prod.mk.injEq] at H;obtain ⟨rfl,rfl,rfl⟩:=H;obtain ⟨ASz9_0,cSz9_0,HGz9,hgz9,HSz9_0⟩:=HI0.out;have hcz9_0:=Qhb HGz9;have hcz9_1:=Qhc HGz9;have hcz9_2:=Qhd HGz9;have hfz9_1:=Qg HGz9 1;have hfz9_2:=Qg HGz9 2;clear HGz9 hgz9;go_enter Try.func114,Try.ntmps114;go_wp2
   repeat (go_quiet (fail);try go_wp2)
   go_ret
   (try simp only [Int.add_zero])
   exact ⟨by first|rfl|(simp [Qe,Qf] <;>rfl)|(simp [*,Qe,Qf] <;>rfl),by repeat (first|(with_reducible first|exact HI0.out|apply Qa.alloc|apply Qa.drewN|apply Qa.drew|apply Qa.set_1|apply Qa.set_2)|exact HI0.out),by repeat (first|(with_reducible first|exact HB.out|apply Qq|apply Qw|apply Qbb|refine Q1 ?_ (Qa.ge HI0.out))|exact HB.out),by repeat (first|(with_reducible first|exact HK.out|apply Qj.set_|apply Qgb|apply Qfc|apply Qga)|exact HK.out)⟩
end Go.Proofs.Ytkgngggppcmpfaa.L
end
section
namespace Go.Proofs.Ytkgngggppcmpfaa.L
open Go.RowKit Go.Proofs.YtkgngggppcmpfaaW.PrintWords Go.Proofs.YtkgngggppcmpfaaW.PrintLast Go.Proofs.YtkgngggppcmpfaaW.PrintMore Go.Proofs.Ytkgngggppcmpfaa.X
set_option linter.unusedVariables false
theorem Qa.vB {w0 w W:World} (k:Z0 (Below w0.heap.size w0 w)) (h:Below w0.heap.size w0 W:=by repeat (first|(with_reducible first|exact HB.out|apply Qq|apply Qw|apply Qbb|refine Q1 ?_ (Qa.ge (Z0.out (by assumption)))|refine Q1 ?_ (Z0.out (by assumption)))|exact HB.out)):Below w0.heap.size w0 W:=h
theorem Qa.vI {w0 W:World} {g:Nat} {f0:List Int} {f1:Int} {f2:Int} {W1:World} {f0_:List Int} {f1_:Int} {f2_:Int} (k:Z0 (Qa w0 W g f0 f1 f2)) (h:Qa w0 W1 g f0_ f1_ f2_:=by repeat (first|(with_reducible first|exact HI0.out|apply Qa.alloc|apply Qa.drewN|apply Qa.drew|apply Qa.set_1|apply Qa.set_2|refine Qa.far ?_ (Z0.out (by assumption)) _)|exact HI0.out)):Qa w0 W1 g f0_ f1_ f2_:=h
end Go.Proofs.Ytkgngggppcmpfaa.L
end
section
namespace Go.Proofs.Ytkgngggppcmpfaa.L
open Go.RowKit Go.Proofs.YtkgngggppcmpfaaW.PrintWords Go.Proofs.YtkgngggppcmpfaaW.PrintLast Go.Proofs.YtkgngggppcmpfaaW.PrintMore Go.Proofs.Ytkgngggppcmpfaa.X
attribute [local go_sem] Qbd Qbf Qbn Qbo Q3 Q4 Qbe Qbg
set_option linter.unusedVariables false
set_option linter.unusedSimpArgs false
def Qm.f (s0_0:List Int) (s0_1:Int) (s0_2:Int) (a1:Int):Option (Int × Int × Int):=if a1≤1 then (some (0,s0_1,s0_2)) else ((Qdn.f s0_0 s0_1 s0_2).bind fun bt189=>(if a1>200 then ((Qdn.f s0_0 bt189.2.1 bt189.2.2).bind fun bt192=>(if a1=0 then (none) else (some (Int.tmod (wrap64 ((wrap64 (bt189.1*256))+bt192.1)) a1,bt192.2.1,bt192.2.2)))) else (if a1=0 then (none) else (some (Int.tmod bt189.1 a1,bt189.2.1,bt189.2.2)))))
set_option maxHeartbeats 8000000 in
set_option maxRecDepth 100000 in
theorem Qm.calls (g:Nat) (s0_0:List Int) (s0_1:Int) (s0_2:Int) (a1:Int) (r1:Int) (r2:Int) (r3:Int) (w0 w:World) (hI:Qa w0 w g s0_0 s0_1 s0_2) (hB:Below w0.heap.size w0 w) (h:Qm.f s0_0 s0_1 s0_2 a1=some (r1,r2,r3)):
 Calls Try.prog 58 #[.pointer (some ⟨g,0,none⟩), .int .i64 a1] w fun e w'=>e= .returned (.int .i64 r1)∧Qa w0 w' g s0_0 r2 r3∧Below w0.heap.size w0 w'∧Qj w w' g none:=by
 have HI0:=Zk hI;have HK:=Zk (Qj.refl w g none);have HL:=Zk hB.size;clear hI;have HW0:=Zk hB.size;have HB:=Zk hB;clear hB;have H:(if a1≤1 then (some (0,s0_1,s0_2)) else ((Qdn.f s0_0 s0_1 s0_2).bind fun bt189=>(if a1>200 then ((Qdn.f s0_0 bt189.2.1 bt189.2.2).bind fun bt192=>(if a1=0 then (none) else (some (Int.tmod (wrap64 ((wrap64 (bt189.1*256))+bt192.1)) a1,bt192.2.1,bt192.2.2)))) else (if a1=0 then (none) else (some (Int.tmod bt189.1 a1,bt189.2.1,bt189.2.2))))))=some (r1,r2,r3):=h;clear h
 by_cases c3:a1≤1
 ·
  rw [if_pos c3] at H;have c3b0:=decide_eq_true c3;clear c3;simp only [Option.some.injEq,Prod.mk.injEq] at H;obtain ⟨rfl,rfl,rfl⟩:=H;go_enter Try.func58,Try.ntmps58;go_wp2
  go_ret
  exact ⟨by first|rfl|(simp [Qe,Qf] <;>rfl)|(simp [*,Qe,Qf] <;>rfl),(Qa.vI HI0),(Qa.vB HB),(vK HK)⟩
 ·
  rw [if_neg c3] at H;have c3b0:=decide_eq_false c3;clear c3;obtain ⟨⟨t189,t190,t191⟩,A4,H⟩:=bs H;(try dsimp only at H)
  by_cases c5:a1>200
  ·
   rw [if_pos c5] at H;have c5b0:=decide_eq_true c5;clear c5;obtain ⟨⟨t192,t193,t194⟩,A6,H⟩:=bs H;(try dsimp only at H)
   by_cases c7:a1=0
   ·
    rw [if_pos c7] at H;exact absurd H (by simp)
   ·
    rw [if_neg c7] at H;have c7b0:(a1==0)=false:=beq_eq_false_iff_ne.mpr c7;have c7b1:(a1 !=0)=true:=bne_iff_ne.mpr c7;simp only [Option.some.injEq,Prod.mk.injEq] at H;obtain ⟨rfl,rfl,rfl⟩:=H;go_enter Try.func58,Try.ntmps58;go_wp2_with (first|(refine gA (some 9) Try.func114 #[.pointer (some ⟨g,0,none⟩)] ?_;(with_reducible refine (Qdn.calls g s0_0 s0_1 s0_2 t189 t190 t191 w0 _ (Qa.vI HI0) (Qa.vB HB) A4.out).mono ?_);rintro e w8 ⟨rfl,hi,hb,hk⟩;refine ⟨_,rfl,?_⟩;replace HK:=Zk (Qj.trans (vK HK) hk (.inl rfl));replace HB:=Zk (hb);replace HI0:=Zk (hi);(try clear hb hk hi))|(refine gA (some 15) Try.func114 #[.pointer (some ⟨g,0,none⟩)] ?_;(with_reducible refine (Qdn.calls g s0_0 t190 t191 t192 t193 t194 w0 _ (Qa.vI HI0) (Qa.vB HB) A6.out).mono ?_);rintro e w9 ⟨rfl,hi,hb,hk⟩;refine ⟨_,rfl,?_⟩;replace HK:=Zk (Qj.trans (vK HK) hk (.inl rfl));replace HB:=Zk (hb);replace HI0:=Zk (hi);(try clear hb hk hi)))
    go_ret
    exact ⟨by first|rfl|(simp [Qe,Qf] <;>rfl)|(simp [*,Qe,Qf] <;>rfl),(Qa.vI HI0),(Qa.vB HB),(vK HK)⟩
  ·
   rw [if_neg c5] at H;have c5b0:=decide_eq_false c5;clear c5
   by_cases c10:a1=0
   ·
    rw [if_pos c10] at H;exact absurd H (by simp)
   ·
    rw [if_neg c10] at H;have c10b0:(a1==0)=false:=beq_eq_false_iff_ne.mpr c10;have c10b1:(a1 !=0)=true:=bne_iff_ne.mpr c10;simp only [Option.some.injEq,Prod.mk.injEq] at H;obtain ⟨rfl,rfl,rfl⟩:=H;go_enter Try.func58,Try.ntmps58;go_wp2_with (first|(refine gA (some 9) Try.func114 #[.pointer (some ⟨g,0,none⟩)] ?_;(with_reducible refine (Qdn.calls g s0_0 s0_1 s0_2 t189 t190 t191 w0 _ (Qa.vI HI0) (Qa.vB HB) A4.out).mono ?_);rintro e w11 ⟨rfl,hi,hb,hk⟩;refine ⟨_,rfl,?_⟩;replace HK:=Zk (Qj.trans (vK HK) hk (.inl rfl));replace HB:=Zk (hb);replace HI0:=Zk (hi);(try clear hb hk hi)))
    go_ret
    exact ⟨by first|rfl|(simp [Qe,Qf] <;>rfl)|(simp [*,Qe,Qf] <;>rfl),(Qa.vI HI0),(Qa.vB HB),(vK HK)⟩
end Go.Proofs.Ytkgngggppcmpfaa.L
end
section
namespace Go.Proofs.Ytkgngggppcmpfaa.L
open Go.RowKit Go.Proofs.YtkgngggppcmpfaaW.PrintWords Go.Proofs.YtkgngggppcmpfaaW.PrintLast Go.Proofs.YtkgngggppcmpfaaW.PrintMore
attribute [local go_sem] Qbd Qbf Qbn Qbo Q3 Q4 Qbe Qbg
set_option linter.unusedVariables false
set_option linter.unusedSimpArgs false
def Qch.f (a0:Int) (a1:Int):Option (Bool):=if 0≤a1 then (some ((Int.tmod (shr .i64 a0 a1) 2)==1)) else (none)
set_option maxHeartbeats 8000000 in
set_option maxRecDepth 100000 in
theorem Qch.calls (a0:Int) (a1:Int) (r:Bool) (w:World) (h:Qch.f a0 a1=some r):
 Calls Try.prog 59 #[.int .i64 a0, .int .i64 a1] w fun e w'=>e= .returned (.bool r)∧Drawn0 w w':=by
 have H:(if 0≤a1 then (some ((Int.tmod (shr .i64 a0 a1) 2)==1)) else (none))=some r:=h;clear h
 by_cases c3:0≤a1
 ·
  rw [if_pos c3] at H;have c3b0:=eq_true c3;have c3b1:=decide_eq_true c3;clear c3;obtain ⟨ji4,hji4⟩: ∃ j_:Int,(shr .i64 a0 a1)=j_:=⟨_,rfl⟩
  replace H:(some ((Int.tmod (ji4) 2)==1))=some r:=by first|(rw [hji4] at H;exact H)|(simp only [hji4] at H ⊢;exact H)
  have hji4_:(a0 / 2 ^ min a1.toNat 64)=ji4:=hji4;have hji4z:a1≤64→(a0 / 2 ^ a1.toNat)=ji4:=Qir hji4;obtain rfl:=Option.some.inj H;go_enter Try.func59,Try.ntmps59;go_wp2
  go_ret
  exact ⟨by first|rfl|(simp;done)|(simp only [←hji4] <;>(first|rfl|simp))|(simp [*];done),by repeat (first|exact Drawn0.refl _|apply Drawn0.step)⟩
 ·
  rw [if_neg c3] at H;exact absurd H (by simp)
def Qc8.f (a0:Int) (a1:Int):Option (Int):=if a0>a1 then (some a0) else (some a1)
set_option maxHeartbeats 8000000 in
set_option maxRecDepth 100000 in
theorem Qc8.calls (a0:Int) (a1:Int) (r:Int) (w:World) (h:Qc8.f a0 a1=some r):
 Calls Try.prog 60 #[.int .i64 a0, .int .i64 a1] w fun e w'=>e= .returned (.int .i64 r)∧Drawn0 w w':=by
 have H:(if a0>a1 then (some a0) else (some a1))=some r:=h;clear h
 by_cases c3:a0>a1
 ·
  rw [if_pos c3] at H;have c3b0:=decide_eq_true c3;clear c3;obtain rfl:=Option.some.inj H;go_enter Try.func60,Try.ntmps60;go_wp2
  go_ret
  exact ⟨by first|rfl|(simp;done)|(simp [*];done),by repeat (first|exact Drawn0.refl _|apply Drawn0.step)⟩
 ·
  rw [if_neg c3] at H;have c3b0:=decide_eq_false c3;clear c3;obtain rfl:=Option.some.inj H;go_enter Try.func60,Try.ntmps60;go_wp2
  go_ret
  exact ⟨by first|rfl|(simp;done)|(simp [*];done),by repeat (first|exact Drawn0.refl _|apply Drawn0.step)⟩
end Go.Proofs.Ytkgngggppcmpfaa.L
end
section
namespace Go.Proofs.Ytkgngggppcmpfaa.L
open Go.RowKit Go.Proofs.YtkgngggppcmpfaaW.PrintWords Go.Proofs.YtkgngggppcmpfaaW.PrintLast Go.Proofs.YtkgngggppcmpfaaW.PrintMore Go.Proofs.Ytkgngggppcmpfaa.X
attribute [local go_sem] Qbd Qbf Qbn Qbo Q3 Q4 Qbe Qbg
set_option linter.unusedVariables false
set_option linter.unusedSimpArgs false
def Qbh.f (s0_0:List Int) (s0_1:Int) (s0_2:Int) (l1:List Int):Option (Int × Int × Int):=(Qm.f s0_0 s0_1 s0_2 (l1.length:Int)).bind fun bt195=>(if 0≤bt195.1 then (if bt195.1<(l1.length:Int) then (some (rd l1 bt195.1,bt195.2.1,bt195.2.2)) else (none)) else (none))
set_option maxHeartbeats 8000000 in
set_option maxRecDepth 100000 in
theorem Qbh.calls (g:Nat) (s0_0:List Int) (s0_1:Int) (s0_2:Int) (A1:Option Addr) (c1:Nat) (l1:List Int) (r1:Int) (r2:Int) (r3:Int) (w0 w:World) (hI:Qa w0 w g s0_0 s0_1 s0_2) (hB:Below w0.heap.size w0 w) (hr1:Kd.C (Kd.int .i64) w A1 l1.length l1) (hc1:l1.length≤c1) (hf1: ∀ ad,A1=some ad→0<l1.length→ad.block≠g) (h:Qbh.f s0_0 s0_1 s0_2 l1=some (r1,r2,r3)):
 Calls Try.prog 94 #[.pointer (some ⟨g,0,none⟩), .slice A1 l1.length c1] w fun e w'=>e= .returned (.int .i64 r1)∧Qa w0 w' g s0_0 r2 r3∧Below w0.heap.size w0 w'∧Qj w w' g none:=by
 have HR1:=Zk hr1;have HC1:=Zk hc1;clear hr1 hc1;have HI0:=Zk hI;have HK:=Zk (Qj.refl w g none);have HL:=Zk hB.size;clear hI;have HW0:=Zk hB.size;have HB:=Zk hB;clear hB;have H:((Qm.f s0_0 s0_1 s0_2 (l1.length:Int)).bind fun bt195=>(if 0≤bt195.1 then (if bt195.1<(l1.length:Int) then (some (rd l1 bt195.1,bt195.2.1,bt195.2.2)) else (none)) else (none)))=some (r1,r2,r3):=h;clear h;obtain ⟨⟨t195,t196,t197⟩,A3,H⟩:=bs H;(try dsimp only at H)
 by_cases c4:0≤t195
 ·
  rw [if_pos c4] at H;have c4b0:=decide_eq_true c4;clear c4
  by_cases c5:t195<(l1.length:Int)
  ·
   rw [if_pos c5] at H;have c5b0:=decide_eq_true c5;clear c5;simp only [Option.some.injEq,Prod.mk.injEq] at H;obtain ⟨rfl,rfl,rfl⟩:=H;go_enter Try.func94,Try.ntmps94;go_wp2_with (first|(refine gA (some 9) Try.func58 #[.pointer (some ⟨g,0,none⟩), .int .i64 (l1.length:Int)] ?_;(with_reducible refine (Qm.calls g s0_0 s0_1 s0_2 (l1.length:Int) t195 t196 t197 w0 _ (Qa.vI HI0) (Qa.vB HB) A3.out).mono ?_);rintro e w6 ⟨rfl,hi,hb,hk⟩;refine ⟨_,rfl,?_⟩;replace HK:=Zk (Qj.trans (vK HK) hk (.inl rfl));replace HB:=Zk (hb);replace HI0:=Zk (hi);(try clear hb hk hi);have p198:0≤(t195:Int):=of_decide_eq_true (by first|(with_reducible assumption)|assumption);have q198:t195<(l1.length:Int):=of_decide_eq_true (by first|(with_reducible assumption)|assumption);obtain ⟨ad198,e198,hx198_0⟩:=Kd.at_int HR1.out t195 p198 q198;cases e198;replace hx198_0:=Qoz HK.out hx198_0 (by first|(rw [Qg9];exact hf1 _ rfl (by omega))|exact hf1 _ rfl (by omega)|exact hf1 ad198 rfl (by omega));replace p198:=eq_true p198;replace q198:=eq_true q198))
   go_ret
   exact ⟨by first|rfl|(simp [Qe,Qf] <;>rfl)|(simp [*,Qe,Qf] <;>rfl),(Qa.vI HI0),(Qa.vB HB),(vK HK)⟩
  ·
   rw [if_neg c5] at H;exact absurd H (by simp)
 ·
  rw [if_neg c4] at H;exact absurd H (by simp)
def Qdp.f (l0:List Int):Option (List Int):=(some (([] :List Int):List Int)).bind fun y199=>(if y199.length+l0.length<17592186044416 then (some (y199++l0)) else (none))
set_option maxHeartbeats 8000000 in
set_option maxRecDepth 100000 in
theorem Qdp.calls (A0:Option Addr) (c0:Nat) (l0:List Int) (r:List Int) (w:World) (hr0:Kd.C (Kd.int .i64) w A0 l0.length l0) (hc0:l0.length≤c0) (h:Qdp.f l0=some r):
 Calls Try.prog 70 #[.slice A0 l0.length c0] w fun e w'=> ∃ v0_:Value,e= .returned (v0_)∧Kd.R (Kd.int .i64) 3 w' w.heap.size (fun _=>True) v0_ r∧Below w.heap.size w w':=by
 have HR0:=Zk hr0;have HC0:=Zk hc0;clear hr0 hc0;have HB:=Zk (Below.refl w.heap.size w);have H:((some (([] :List Int):List Int)).bind fun y199=>(if y199.length+l0.length<17592186044416 then (some (y199++l0)) else (none)))=some r:=h;clear h;obtain ⟨y199,hy199⟩: ∃ y_:List Int,y_=(([] :List Int)):=⟨_,rfl⟩
 replace H:(if y199.length+l0.length<17592186044416 then (some (y199++l0)) else (none))=some r:=by first|(rw [hy199];with_reducible exact H)|(have H2_:=(Option.bind_some _ _).symm.trans H;rw [hy199];with_reducible exact H2_)|(have H2_:=(Option.bind_some _ _).symm.trans H;with_reducible exact H2_)|with_reducible exact H|(rw [hy199];exact H)|exact H
 have Ny199:=Zk hy199;clear hy199
 by_cases c2:y199.length+l0.length<17592186044416
 ·
  rw [if_pos c2] at H;have LMc2:=Zk c2;clear c2;obtain ⟨y202,hy202⟩: ∃ y_:List Int,y_=(y199++l0):=⟨_,rfl⟩
  replace H:(some y202)=some r:=by first|(rw [hy202];with_reducible exact H)|(have H2_:=(Option.bind_some _ _).symm.trans H;rw [hy202];with_reducible exact H2_)|(have H2_:=(Option.bind_some _ _).symm.trans H;with_reducible exact H2_)|with_reducible exact H|(rw [hy202];exact H)|exact H
  have Ny202:=Zk hy202;clear hy202;obtain rfl:=Option.some.inj H;go_enter Try.func70,Try.ntmps70;go_wp2_with (first|((with_reducible refine Qb2 (N:=3) rfl ?_);refine Kd.R_lit (Kd.int .i64) _ 3 ?hg (N:=3) ?hd (xs:=([] :List Int)) (inner:= []) (ok:=fun _=>True) (okp:=fun _=>True) ?hr ?hp (fun _ hk=>hk) trivial (Below.refl _ _) (Nat.le_refl _) (by simp) ?_;(case hd=>rfl);(case hg=>rfl);(case hr=>first|(go_simp;done)|(go_simp;rfl));(case hp=>exact (Reps.none _ _));intro v200 w3 ho4 hb hg_ hnew_;clear hg_ hnew_;(first|rw [←Ny199.out] at ho4|(simp only [Int.reduceToNat] at ho4;rw [←Ny199.out] at ho4));have HO201:=Zk (Kd.R_lower ho4 (Qh (uB HB)));replace HB:=Zk (Qc (uB HB) hb);clear hb ho4)|((with_reducible refine Qcl (b:= .append) (xs:= #[.tmp 3, .tmp 4]) rfl ?_);at_builtin;refine Kd.R_append_rows (Kd.int .i64) (w0:=w) w.heap.size rfl (.tmp 3) (.tmp 4) 24 3 (.int .i64 0) 8 rfl Try.underlying24 Qed rfl (by decide) (by omega) v200 y199 l0 _ _ _ (fun _=>True) (fun _=>False) rfl rfl ?aO ?aR (fun _ _ h=>h) (fun _ h=>h.elim) ?aF ?aB ?aS ?aL ?_;(case aR=>repeat (first|exact (Kd.C_below HR0.out HB.out)|(with_reducible refine Kd.C_alloc ?_ _)|(with_reducible refine Kd.C_drewN ?_ _)|(with_reducible refine Kd.C_drew ?_)));(case aB=>exact (uB HB));(case aF=>exact (fun _ _=>trivial));(case aO=>exact (uR HO201));(case aS=>exact (Qh (uB HB)));(case aL=>have:=LMc2.out;omega);intro v203 w5 ho hb hg hat;rw [←Ny202.out] at ho;replace HB:=Zk (hb);have HO204:=Zk (ho);clear HO201;clear ho hb hg hat))
  go_ret
  exact ⟨_,by first|rfl|(simp [Qe,Qf] <;>rfl)|(simp [*,Qe,Qf] <;>rfl),uR HO204,uB HB⟩
 ·
  rw [if_neg c2] at H;exact absurd H (by simp)
mutual
def Qbi.l0:Nat→Int→List (List Int)→Int→List Int→Option (List Int)
 |0,_,_,_,_=>none
 |k+1,x0,x1,x6,x210000=>if x6<x0 then (Qbi.l1 k x0 x1 x6 x1 (x1.length:Int) 0 x210000) else (some x210000)
def Qbi.l1:Nat→Int→List (List Int)→Int→List (List Int)→Int→Int→List Int→Option (List Int)
 |0,_,_,_,_,_,_,_=>none
 |k+1,x0,x1,x6,x17,x18,x19,x210000=>if x19<x18 then (if 0≤x19 then (if x19<(x17.length:Int) then (if 1<((Qce x17 x19).length:Int) then (if (rd (Qce x17 x19) 1)=x6 then (if 0≤x6 then (if x6<(x210000.length:Int) then (if 0<((Qce x17 x19).length:Int) then (if 0≤(rd (Qce x17 x19) 0) then (if (rd (Qce x17 x19) 0)<(x210000.length:Int) then (Qbi.l1 k x0 x1 x6 x17 x18 (wrap64 (x19+1)) (x210000.set (x6:Int).toNat (Go.bits .or .i64 (rd x210000 x6) (Go.bits .or .i64 (shl .i64 1 (rd (Qce x17 x19) 0)) (rd x210000 (rd (Qce x17 x19) 0)))))) else (none)) else (none)) else (none)) else (none)) else (none)) else (Qbi.l1 k x0 x1 x6 x17 x18 (wrap64 (x19+1)) x210000)) else (none)) else (none)) else (none)) else (Qbi.l0 k x0 x1 (wrap64 (x6+1)) x210000)
end
def Qbi.f (k:Nat) (a0:Int) (l1:List (List Int)):Option (List Int):=if 0≤a0 then (if (a0:Int).toNat≤35184372088832 then (Qbi.l0 k a0 l1 0 (List.replicate (a0:Int).toNat 0)) else (none)) else (none)
theorem Qbi.mono_l: ∀ k,(∀ y0 y1 y2 y3,LeO (Qbi.l0 k y0 y1 y2 y3) (Qbi.l0 (k+1) y0 y1 y2 y3))∧(∀ y0 y1 y2 y3 y4 y5 y6,LeO (Qbi.l1 k y0 y1 y2 y3 y4 y5 y6) (Qbi.l1 (k+1) y0 y1 y2 y3 y4 y5 y6))
 |0=>⟨fun _ _ _ _ r h=>by simp [Qbi.l0] at h,fun _ _ _ _ _ _ _ r h=>by simp [Qbi.l1] at h⟩
 |k+1=>by
  obtain ⟨ih0,ih1⟩:=Qbi.mono_l k;refine ⟨?_,?_⟩
  all_goals
   intros
   first|unfold Qbi.l0|unfold Qbi.l1
   repeat' (with_reducible first|apply ih0|apply ih1|exact LeO.refl _|exact LeO.none _|refine LeO.ite ?_ ?_|refine LeO.bind ?_ (fun _=> ?_))
theorem Qbi.mono: ∀ a0 a1 k,LeO (Qbi.f k a0 a1) (Qbi.f (k+1) a0 a1):=by
 intro a0 a1 k;obtain ⟨ih0,ih1⟩:=Qbi.mono_l k;unfold Qbi.f
 repeat' (with_reducible first|apply ih0|apply ih1|exact LeO.refl _|exact LeO.none _|refine LeO.ite ?_ ?_|refine LeO.bind ?_ (fun _=> ?_))
def Qbi.T9:Bool × List (List Nat × List Nat):=(true,[([],[]),([0],[0]),([],[]),([1,2],[1,2]),([3],[3]),([],[]),([5],[5]),([6],[6]),([7],[7]),([],[]),([9],[9]),([],[]),([11],[11]),([12],[12]),([10,13],[10,13]),([14],[14]),([8,15],[8,15]),([4,16],[4,16]),([1,2,0,1,2,3,4,5,6,7,8,9,10,11,12,13,14,15,16,17],[1,2]),([18,17,0,1,2,3,4,5,6,7,8,9,10,11,12,13,14,15,16,17],[17,18])])
def Qbi.B9:List Nat:= [0,1,0,7,15,0,32,96,224,0,512,0,2048,6144,15872,32256,65504,131071,262143,524287]
theorem Qbi.tab9:rtab .any (Qfx Try.f113 9)=Qbi.T9:=by kernel_rfl
theorem Qbi.bits9:Qem Qbi.T9.2 Qbi.B9=true:=by kernel_rfl
set_option maxHeartbeats 8000000 in
set_option maxRecDepth 100000 in
theorem Qbi.calls (k:Nat) (a0:Int) (A1:Option Addr) (c1:Nat) (l1:List (List Int)) (r:List Int) (w:World) (hr1:Kd.C (Kd.slice 3 (Kd.int .i64)) w A1 l1.length l1) (hc1:l1.length≤c1) (h:Qbi.f k a0 l1=some r):
 Calls Try.prog 113 #[.int .i64 a0, .slice A1 l1.length c1] w fun e w'=> ∃ v0_:Value,e= .returned (.agg #[v0_])∧Kd.R (Kd.int .i64) 3 w' w.heap.size (fun _=>True) v0_ r∧Below w.heap.size w w':=by
 have hu26:=Try.underlying26;have HR1:=Zk hr1;have HC1:=Zk hc1;clear hr1 hc1;have HB:=Zk (Below.refl w.heap.size w);have H:(if 0≤a0 then (if (a0:Int).toNat≤35184372088832 then (Qbi.l0 k a0 l1 0 (List.replicate (a0:Int).toNat 0)) else (none)) else (none))=some r:=h;clear h
 by_cases c3:0≤a0
 ·
  rw [if_pos c3] at H;have c3b0:=eq_true c3;have c3b1:=decide_eq_true c3;clear c3
  by_cases c4:(a0:Int).toNat≤35184372088832
  ·
   rw [if_pos c4] at H;have c4b0:=eq_true c4;have c4b1:=decide_eq_true c4;clear c4;obtain ⟨y206,hy206⟩: ∃ y_:List Int,y_=(List.replicate (a0:Int).toNat 0):=⟨_,rfl⟩
   replace H:(Qbi.l0 k a0 l1 0 y206)=some r:=by first|(rw [hy206];with_reducible exact H)|(have H2_:=(Option.bind_some _ _).symm.trans H;rw [hy206];with_reducible exact H2_)|(have H2_:=(Option.bind_some _ _).symm.trans H;with_reducible exact H2_)|with_reducible exact H|(rw [hy206];exact H)|exact H
   have Ny206:=Zk hy206;clear hy206;have H':=Zk H;clear H;go_enter Try.func113,Try.ntmps113;go_wp2_with (first|(refine bE (N:=4) (cs:= #[.slice none 0 0]) (t:=26) ?_;intro gb205 hg w5 hbox hb;have BK205:=Zk (hbox);have GW205:=Zk ((by rw [hg];exact (Qh (uB HB)):w.heap.size≤gb205));have GE205:=GW205;replace HB:=Zk (Qc (uB HB) hb);clear hb hbox hg)|((with_reducible refine Qb2 (N:=10) rfl ?_);refine Kd.R_make (Kd.int .i64) _ 3 rfl (N:=10) rfl 24 _ _ rfl a0 rfl rfl Try.underlying24 (.int .i64 0) 8 Qed rfl (by decide) (by omega) 0 (ok:=fun _=>True) (okp:=fun _=>True) rfl (fun _ hk=>hk) trivial (of_decide_eq_true (by first|(with_reducible assumption)|assumption)) (Nat.le_trans (Nat.mul_le_mul_right _ (of_decide_eq_true (by first|(with_reducible assumption)|assumption):a0.toNat≤35184372088832)) (by omega)) (Below.refl _ _) (Nat.le_refl _) ?_;intro v207 w6 ho7 hb hg_ hnew_;clear hg_ hnew_;(first|rw [←Ny206.out] at ho7|(simp only [Int.reduceToNat] at ho7;rw [←Ny206.out] at ho7));have HO208:=Zk (Kd.R_lower ho7 (Qh (vB HB)));replace BK205:=Zk (Qd (uK BK205) hb);replace HB:=Zk (Qc (vB HB) hb);clear hb ho7;obtain ⟨Ao8,co8,eo8⟩:=Kd.R_slice HO208.out;subst eo8)|(refine bE (N:=5) (cs:= #[.slice none 0 0]) (t:=26) ?_;intro gb209 hg w9 hbox hb;replace HO208:=Zk (Kd.R_below (uR HO208) hb);have BK209:=Zk (hbox);have GW209:=Zk ((by rw [hg];exact (Qh (vB HB)):w.heap.size≤gb209));have GE209:=GW209;replace HB:=Zk (Qc (vB HB) hb);have NB205_209:=Zk ((by rw [hg];exact Nat.ne_of_lt (Qb9 (uK BK205)):gb205≠gb209));have NB209_205:=Zk ((by rw [hg];exact Nat.ne_of_gt (Qb9 (uK BK205)):gb209≠gb205));replace BK205:=Zk (Qd (uK BK205) hb);clear hb hbox hg;have hnb10:=NB209_205.out;have hnc10:=NB205_209.out;have hcz11_0:=bC BK209;have hfz11_0:=Qg BK209.out 0))
   go_loopg [6] k (fun kq v6 w'=> ∃ (x6_1:Int) (x210000_1:List Int) (u210000:Value),v6= .int .i64 x6_1∧Z0 (Qbi.l0 kq a0 l1 x6_1 x210000_1=some r)∧Z0 (kq≤k)∧Z0 (Kd.R (Kd.int .i64) 3 w' w.heap.size (fun _=>True) u210000 x210000_1)∧Z0 (w'.heap[gb205]? =some (.cells #[(.slice none 0 0)] 26 (0,0)))∧Z0 (w'.heap[gb209]? =some (.cells #[u210000] 26 (0,0)))∧Z0 (Below w.heap.size w w'))
   case atStart=>exact ⟨(0),(y206),(.slice Ao8 y206.length co8),(by first|rfl|(simp;done)|(simp [*];done)),H',⟨Nat.le_refl _⟩,⟨by (with_reducible repeat (first|apply Kd.R_alloc|apply Kd.R_drewN|apply Kd.R_drew));exact Kd.R_mono (Kd.R_far (p:=⟨gb209,0,none⟩) (Kd.R_types HO208.out BK209.out (by decide)) (fun _ hk=>hk.2) (.slice Ao8 y206.length co8)) (fun _ hk=>trivial)⟩,⟨kF⟩,⟨bP⟩,⟨(vB HB)⟩⟩
   case round=>
    clear H'
    try clear c3b0 c3b1 c4b0 c4b1 hcz11_0 hfz11_0
    obtain ⟨x6_1,x210000_1,u210000,rfl,HA,HK1,HO_210000,BK205,BK209,HB⟩:=hrel;cases gk with
    |zero=>exact absurd HA.out (by simp [Qbi.l0])
    |succ k1=>
     have H:=HA.out;clear HA;simp only [Qbi.l0] at H
     by_cases c12:x6_1<a0
     ·
      rw [if_pos c12] at H;have c12b0:=decide_eq_true c12;clear c12;have H':=Zk H;clear H;go_wp2
      go_loopg [19] k1 (fun kq v19 w'=> ∃ (x19_2:Int) (x210000_2:List Int) (u210000:Value),v19= .int .i64 x19_2∧Z0 (Qbi.l1 kq a0 l1 x6_1 l1 (l1.length:Int) x19_2 x210000_2=some r)∧Z0 (kq≤k1)∧Z0 (Kd.R (Kd.int .i64) 3 w' w.heap.size (fun _=>True) u210000 x210000_2)∧Z0 (w'.heap[gb205]? =some (.cells #[(.slice none 0 0)] 26 (0,0)))∧Z0 (w'.heap[gb209]? =some (.cells #[u210000] 26 (0,0)))∧Z0 (Below w.heap.size w w'))
      case atStart=>exact ⟨(0),(x210000_1),(u210000),(by first|rfl|(simp;done)|(simp [*];done)),H',⟨Nat.le_refl _⟩,⟨uR HO_210000⟩,⟨uK BK205⟩,⟨uK BK209⟩,⟨(vB HB)⟩⟩
      case round=>
       clear H'
       try clear c12b0
       obtain ⟨x19_2,x210000_2,u210000,rfl,HA,HK2,HO_210000,BK205,BK209,HB⟩:=hrel;cases gk with
       |zero=>exact absurd HA.out (by simp [Qbi.l1])
       |succ k2=>
        have H:=HA.out;clear HA;simp only [Qbi.l1] at H
        by_cases c13:x19_2<(l1.length:Int)
        ·
         rw [if_pos c13] at H;have c13b0:=decide_eq_true c13;clear c13
         by_cases c14:0≤x19_2
         ·
          rw [if_pos c14] at H;have c14b0:=decide_eq_true c14;clear c14
          by_cases c15:x19_2<(l1.length:Int)
          ·
           rw [if_pos c15] at H;have c15b0:=decide_eq_true c15;clear c15
           by_cases c16:1<((Qce l1 x19_2).length:Int)
           ·
            rw [if_pos c16] at H;have c16b0:=decide_eq_true c16;have c16b1:decide (1<(Qce l1 x19_2).length)=true:=decide_eq_true (by omega);clear c16
            by_cases c17:(rd (Qce l1 x19_2) 1)=x6_1
            ·
             rw [if_pos c17] at H;have c17b0:((rd (Qce l1 x19_2) 1)==x6_1)=true:=beq_iff_eq.mpr c17;have c17b1:((rd (Qce l1 x19_2) 1) !=x6_1)=false:=bne_eq_false_iff_eq.mpr c17;clear c17
             by_cases c18:0≤x6_1
             ·
              rw [if_pos c18] at H;have c18b0:=decide_eq_true c18;clear c18
              by_cases c19:x6_1<(x210000_2.length:Int)
              ·
               rw [if_pos c19] at H;have c19b0:=decide_eq_true c19;clear c19
               by_cases c20:0<((Qce l1 x19_2).length:Int)
               ·
                rw [if_pos c20] at H;have c20b0:=decide_eq_true c20;have c20b1:decide (0<(Qce l1 x19_2).length)=true:=decide_eq_true (by omega);clear c20
                by_cases c21:0≤(rd (Qce l1 x19_2) 0)
                ·
                 rw [if_pos c21] at H;have c21b0:=eq_true c21;have c21b1:=decide_eq_true c21;clear c21;obtain ⟨ji22,hji22⟩: ∃ j_:Int,(shl .i64 1 (rd (Qce l1 x19_2) 0))=j_:=⟨_,rfl⟩
                 replace H:(if (rd (Qce l1 x19_2) 0)<(x210000_2.length:Int) then (Qbi.l1 k2 a0 l1 x6_1 l1 (l1.length:Int) (wrap64 (x19_2+1)) (x210000_2.set (x6_1:Int).toNat (Go.bits .or .i64 (rd x210000_2 x6_1) (Go.bits .or .i64 (ji22) (rd x210000_2 (rd (Qce l1 x19_2) 0)))))) else (none))=some r:=by first|(rw [hji22] at H;exact H)|(simp only [hji22] at H ⊢;exact H)
                 have hji22_:(IntKind.i64.wrap (1*2 ^ min (rd (Qce l1 x19_2) 0).toNat 64))=ji22:=hji22;have hji22z:(rd (Qce l1 x19_2) 0)≤64→(IntKind.i64.wrap (1*2 ^ (rd (Qce l1 x19_2) 0).toNat))=ji22:=Qeb hji22;have hji22u:(IntKind.i64.wrap (2 ^ min (rd (Qce l1 x19_2) 0).toNat 64))=ji22:=by have h_:=hji22_;rw [Int.one_mul] at h_;exact h_
                 have hji22v:(rd (Qce l1 x19_2) 0)≤64→(IntKind.i64.wrap (2 ^ (rd (Qce l1 x19_2) 0).toNat))=ji22:=fun hle_=>by have h_:=hji22z hle_;rw [Int.one_mul] at h_;exact h_
                 have hji22y:(wrap64 (1*2 ^ min (rd (Qce l1 x19_2) 0).toNat 64))=ji22:=(Qci _).symm.trans hji22_;have hji22x:(rd (Qce l1 x19_2) 0)≤64→(wrap64 (1*2 ^ (rd (Qce l1 x19_2) 0).toNat))=ji22:=fun h_=>(Qci _).symm.trans (hji22z h_)
                 by_cases c23:(rd (Qce l1 x19_2) 0)<(x210000_2.length:Int)
                 ·
                  rw [if_pos c23] at H;have c23b0:=decide_eq_true c23;clear c23;obtain ⟨y216,hy216⟩: ∃ y_:List Int,y_=(x210000_2.set (x6_1:Int).toNat (Go.bits .or .i64 (rd x210000_2 x6_1) (Go.bits .or .i64 (ji22) (rd x210000_2 (rd (Qce l1 x19_2) 0))))):=⟨_,rfl⟩
                  replace H:(Qbi.l1 k2 a0 l1 x6_1 l1 (l1.length:Int) (wrap64 (x19_2+1)) y216)=some r:=by first|(rw [hy216];with_reducible exact H)|(have H2_:=(Option.bind_some _ _).symm.trans H;rw [hy216];with_reducible exact H2_)|(have H2_:=(Option.bind_some _ _).symm.trans H;with_reducible exact H2_)|with_reducible exact H|(rw [hy216];exact H)|exact H
                  have Ny216:=Zk hy216;clear hy216;have H':=Zk H;clear H;have p210:0≤(x19_2:Int):=of_decide_eq_true (by first|(with_reducible assumption)|assumption);have q210:x19_2<(l1.length:Int):=of_decide_eq_true (by first|(with_reducible assumption)|assumption);obtain ⟨ad210,A210_0,c210_0,e210,hx210_0,hl210_0,hi210_0⟩:=Qhx HR1.out x19_2 p210 q210;cases e210;replace hx210_0:=(HB.out.cell (World.block_lt_of_cell? w _ hx210_0)).trans hx210_0;have HR210_0:=Zk hi210_0;have HC210_0:=Zk hl210_0;clear hi210_0 hl210_0;replace p210:=eq_true p210;replace q210:=eq_true q210;have p211:0≤(1:Int):=(by omega)
                  have q211:1<((Qce l1 x19_2).length:Int):=of_decide_eq_true (by first|(with_reducible assumption)|assumption);obtain ⟨ad211,e211,hx211_0⟩:=Kd.at_int HR210_0.out 1 p211 q211;cases e211
                  (try simp only [show (1:Int).toNat=1 from rfl,Nat.reduceMul,Nat.reduceEqDiff,Go.Addr.add,↓reduceIte] at hx211_0)
                  have qi211:(1<(Qce l1 x19_2).length)=True:=eq_true (by omega)
                  (try rw [show ((1:Int)).toNat=1 from rfl] at hx211_0)
                  replace hx211_0:=(HB.out.cell (World.block_lt_of_cell? w _ hx211_0)).trans hx211_0;replace p211:=eq_true p211;replace q211:=eq_true q211
                  try go_wp2
                  replace HO_210000:=Zk (Kd.R_drew HO_210000.out);replace BK205:=Zk (Qbj BK205.out);replace BK209:=Zk (Qbj BK209.out);replace HB:=Zk (Qbb HB.out);obtain ⟨Ao26,co26,eo26⟩:=Kd.R_slice HO_210000.out
                  (first|subst eo26|(injection eo26 with f1_ f2_ f3_;have f4_:=f1_.symm;have f5_:=f3_.symm;clear f1_ f2_ f3_;subst f4_;subst f5_))
                  have p212:0≤(x6_1:Int):=of_decide_eq_true (by first|(with_reducible assumption)|assumption);have q212:x6_1<(x210000_2.length:Int):=of_decide_eq_true (by first|(with_reducible assumption)|assumption);obtain ⟨ad212,e212,hx212_0⟩:=Kd.at_int (Kd.R_reads' HO_210000.out).2.2 x6_1 p212 q212;cases e212;replace p212:=eq_true p212;replace q212:=eq_true q212;have p213:0≤(0:Int):=(by omega)
                  have q213:0<((Qce l1 x19_2).length:Int):=of_decide_eq_true (by first|(with_reducible assumption)|assumption);obtain ⟨ad213,e213,hx213_0⟩:=Kd.at_int HR210_0.out 0 p213 q213;have hw213_0:=hx213_0
                  (try rw [show ((0:Int)).toNat=0 from rfl] at hw213_0)
                  (try rw [show 0*1=0 from rfl] at hw213_0)
                  (try rw [Addr.add_zero'] at hw213_0)
                  obtain rfl:ad211=ad213:=(by injection e213)
                  have qi213:(0<(Qce l1 x19_2).length)=True:=eq_true (by omega)
                  (try rw [show ((0:Int)).toNat=0 from rfl] at hx213_0)
                  (try rw [Addr.add_zero'] at hx213_0)
                  replace hx213_0:=(HB.out.cell (World.block_lt_of_cell? w _ hx213_0)).trans hx213_0;replace p213:=eq_true p213;replace q213:=eq_true q213;have p214:0≤(0:Int):=(by omega)
                  have q214:0<((Qce l1 x19_2).length:Int):=of_decide_eq_true (by first|(with_reducible assumption)|assumption);obtain ⟨ad214,e214,hx214_0⟩:=Kd.at_int HR210_0.out 0 p214 q214;have hw214_0:=hx214_0
                  (try rw [show ((0:Int)).toNat=0 from rfl] at hw214_0)
                  (try rw [show 0*1=0 from rfl] at hw214_0)
                  (try rw [Addr.add_zero'] at hw214_0)
                  obtain rfl:ad211=ad214:=(by injection e214)
                  have qi214:(0<(Qce l1 x19_2).length)=True:=eq_true (by omega)
                  (try rw [show ((0:Int)).toNat=0 from rfl] at hx214_0)
                  (try rw [Addr.add_zero'] at hx214_0)
                  replace hx214_0:=(HB.out.cell (World.block_lt_of_cell? w _ hx214_0)).trans hx214_0;replace p214:=eq_true p214;replace q214:=eq_true q214;have p215:0≤((rd (Qce l1 x19_2) 0):Int):=of_decide_eq_true (by first|(with_reducible assumption)|assumption);have q215:(rd (Qce l1 x19_2) 0)<(x210000_2.length:Int):=of_decide_eq_true (by first|(with_reducible assumption)|assumption);obtain ⟨ad215,e215,hx215_0⟩:=Kd.at_int (Kd.R_reads' HO_210000.out).2.2 (rd (Qce l1 x19_2) 0) p215 q215;obtain rfl:ad212=ad215:=(by injection e215)
                  replace p215:=eq_true p215;replace q215:=eq_true q215;have p24:0≤(x6_1:Int):=of_decide_eq_true (by first|(with_reducible assumption)|assumption);have q24:(x6_1:Int)<((x210000_2.length:Int):Int):=of_decide_eq_true (by first|(with_reducible assumption)|assumption);obtain ⟨go24,co24,eo24,gb24,gl24,cl24,HG24⟩:=Kd.R_form HO_210000.out (by omega)
                  (first|cases eo24|(injection eo24 with ea_ en_ ec_;(first|subst ea_|(injection ea_ with ea_;subst ea_));subst ec_;clear en_))
                  have GB24:=Zk gb24;have GG24:=Zk HG24;clear gb24 gl24 HG24
                  (first|simp only [Qeu] at hx212_0|skip)
                  (first|simp only [Qeu] at hx215_0|skip)
                  obtain ⟨hx24_0,hf24_0⟩:=Kd.R_celln 0 HO_210000.out (x6_1:Int) p24 q24;replace p24:=eq_true p24;replace q24:=eq_true q24;have HP27:=Kd.R_putn HO_210000.out (x6_1:Int) (Go.bits .or .i64 (rd x210000_2 x6_1) (Go.bits .or .i64 (ji22) (rd x210000_2 (rd (Qce l1 x19_2) 0))));rw [←Ny216.out] at HP27;have HQ27:=Zk HP27;clear HP27;refine sU (n:=20) (S:=fun w'=>w'.cell? ⟨gb209,0,none⟩=some (.slice (some ⟨go24,0,none⟩) x210000_2.length co26)∧w'.cell? ⟨go24,(x6_1).toNat,none⟩=some (.int .i64 (rd x210000_2 x6_1))∧w'.cell? ad211=some (.int .i64 (rd (Qce l1 x19_2) 0))∧w'.cell? ad211=some (.int .i64 (rd (Qce l1 x19_2) 0))∧w'.cell? ⟨go24,((rd (Qce l1 x19_2) 0)).toNat,none⟩=some (.int .i64 (rd x210000_2 (rd (Qce l1 x19_2) 0)))) (ds:= [19]) ⟨(Qb4 BK209.out 0).trans rfl,hx212_0,((HB.out.cell (World.block_lt_of_cell? w _ hw213_0)).trans hw213_0),((HB.out.cell (World.block_lt_of_cell? w _ hw214_0)).trans hw214_0),hx215_0⟩ (fun hHeld=> ?_);refine Qe5 Qbi.tab9 Qbi.bits9 (fun HT_ HW_=> ?_);generalize wr.drew=w25 at HO_210000 BK205 BK209 HB GG24 HQ27 hf24_0 hx212_0 hx213_0 hx214_0 hx215_0 hx24_0 hHeld ⊢;refine pU 0 28 ?_;refine pU 2 30 ?_;refine pU 5 33 ?_;refine pU 6 34 ?_;refine pU 9 37 ?_;refine pU 11 39 ?_;refine pU 12 40 ?_;refine take_ (i:=1) (N:=some 29) (v:= ?_) (a':= ?_) #[true,true,true,false,false,true,true,false,false,true,false,true,true,false,false,false,false,false,false,false] rfl rfl (Qfg HT_.out HW_.out (by kernel_rfl)) (fun _ _ _ h=>h) (Or.inl ⟨by rfl,?_⟩) hHeld ?_ ?_;rotate_left
                  ·
                   rintro w' ⟨s0,s1,s2,s3,s4⟩;go_simp
                   with_reducible rfl
                  rotate_left
                  ·
                   simp only [Act.put,List.setIfInBounds_toArray,List.set_cons_zero,List.set_cons_succ,Qci,Qdb];rfl
                  refine pU 3 31 ?_;refine take_ (i:=4) (N:=some 32) (v:= ?_) (a':= ?_) #[true,true,true,true,true,true,true,false,false,true,false,true,true,false,false,false,false,false,false,false] rfl rfl (Qfg HT_.out HW_.out (by kernel_rfl)) (fun _ _ _ h=>h) (Or.inl ⟨by rfl,?_⟩) hHeld ?_ ?_;rotate_left
                  ·
                   rintro w' ⟨s0,s1,s2,s3,s4⟩;go_simp
                   with_reducible rfl
                  rotate_left
                  ·
                   simp only [Act.put,List.setIfInBounds_toArray,List.set_cons_zero,List.set_cons_succ,Qci,Qdb];rfl
                  refine take_ (i:=7) (N:=some 35) (v:= ?_) (a':= ?_) #[true,true,true,true,true,true,true,true,false,true,false,true,true,false,false,false,false,false,false,false] rfl rfl (Qfg HT_.out HW_.out (by kernel_rfl)) (fun _ _ _ h=>h) (Or.inl ⟨by rfl,?_⟩) hHeld ?_ ?_;rotate_left
                  ·
                   rintro w' ⟨s0,s1,s2,s3,s4⟩;go_simp
                   with_reducible rfl
                  rotate_left
                  ·
                   simp only [Act.put,List.setIfInBounds_toArray,List.set_cons_zero,List.set_cons_succ,Qci,Qdb];rfl
                  refine pU 8 36 ?_;refine take_ (i:=10) (N:=some 38) (v:= ?_) (a':= ?_) #[true,true,true,true,true,true,true,true,true,true,true,true,true,false,false,false,false,false,false,false] rfl rfl (Qfg HT_.out HW_.out (by kernel_rfl)) (fun _ _ _ h=>h) (Or.inl ⟨by rfl,?_⟩) hHeld ?_ ?_;rotate_left
                  ·
                   rintro w' ⟨s0,s1,s2,s3,s4⟩;go_simp
                   with_reducible rfl
                  rotate_left
                  ·
                   simp only [Act.put,List.setIfInBounds_toArray,List.set_cons_zero,List.set_cons_succ,Qci,Qdb];rfl
                  refine take_ (i:=13) (N:=some 41) (v:= ?_) (a':= ?_) #[true,true,true,true,true,true,true,true,true,true,true,true,true,true,false,false,false,false,false,false] rfl rfl (Qfg HT_.out HW_.out (by kernel_rfl)) (fun _ _ _ h=>h) (Or.inl ⟨by rfl,?_⟩) hHeld ?_ ?_;rotate_left
                  ·
                   rintro w' ⟨s0,s1,s2,s3,s4⟩;go_simp
                   with_reducible rfl
                  rotate_left
                  ·
                   simp only [Act.put,List.setIfInBounds_toArray,List.set_cons_zero,List.set_cons_succ,Qci,Qdb];rfl
                  refine pU 14 42 ?_;refine take_ (i:=15) (N:=some 43) (v:= ?_) (a':= ?_) #[true,true,true,true,true,true,true,true,true,true,true,true,true,true,true,true,false,false,false,false] rfl rfl (Qfg HT_.out HW_.out (by kernel_rfl)) (fun _ _ _ h=>h) (Or.inl ⟨by rfl,?_⟩) hHeld ?_ ?_;rotate_left
                  ·
                   rintro w' ⟨s0,s1,s2,s3,s4⟩;go_simp
                   with_reducible rfl
                  rotate_left
                  ·
                   simp only [Act.put,List.setIfInBounds_toArray,List.set_cons_zero,List.set_cons_succ,Qci,Qdb];rfl
                  refine pU 16 44 ?_;refine pU 17 45 ?_;refine pU 18 46 ?_;refine lU 19 none fun K hK=> ?_
                  refine sK ?_;refine hK.out _ _ ?_;clear hK K;refine dU ?_
                  try go_wp2
                  go_roundg k2
                  case measure=>have:=HK1.out;have:=HK2.out;omega
                  case rel=>exact ⟨(wrap64 (x19_2+1)),(y216),(.slice (some ⟨go24,0,none⟩) x210000_2.length co26),(by first|rfl|(simp;done)|(simp [*];done)),H',⟨by have:=HK1.out;have:=HK2.out;omega⟩,⟨uR HQ27⟩,⟨by (with_reducible repeat (first|refine Qbp ?_ _|refine Qbj ?_|refine Qbk ?_ _));refine Qdf ?_ (by have h_:=Kd.R_ne HO_210000.out BK205.out (by decide);intro e_;exact h_ (by rw [e_];rfl)) _;(with_reducible repeat (first|refine Qbp ?_ _|refine Qbj ?_|refine Qbk ?_ _));exact BK205.out⟩,⟨by (with_reducible repeat (first|refine Qbp ?_ _|refine Qbj ?_|refine Qbk ?_ _));refine Qdf ?_ (by have h_:=Kd.R_ne HO_210000.out BK209.out (by decide);intro e_;exact h_ (by rw [e_];rfl)) _;(with_reducible repeat (first|refine Qbp ?_ _|refine Qbj ?_|refine Qbk ?_ _));exact BK209.out⟩,⟨(vB HB)⟩⟩
                 ·
                  rw [if_neg c23] at H;exact absurd H (by simp)
                ·
                 rw [if_neg c21] at H;exact absurd H (by simp)
               ·
                rw [if_neg c20] at H;exact absurd H (by simp)
              ·
               rw [if_neg c19] at H;exact absurd H (by simp)
             ·
              rw [if_neg c18] at H;exact absurd H (by simp)
            ·
             rw [if_neg c17] at H;have c17b0:((rd (Qce l1 x19_2) 1)==x6_1)=false:=beq_eq_false_iff_ne.mpr c17;have c17b1:((rd (Qce l1 x19_2) 1) !=x6_1)=true:=bne_iff_ne.mpr c17;have H':=Zk H;clear H;have p210:0≤(x19_2:Int):=of_decide_eq_true (by first|(with_reducible assumption)|assumption);have q210:x19_2<(l1.length:Int):=of_decide_eq_true (by first|(with_reducible assumption)|assumption);obtain ⟨ad210,A210_0,c210_0,e210,hx210_0,hl210_0,hi210_0⟩:=Qhx HR1.out x19_2 p210 q210;cases e210;replace hx210_0:=(HB.out.cell (World.block_lt_of_cell? w _ hx210_0)).trans hx210_0;have HR210_0:=Zk hi210_0;have HC210_0:=Zk hl210_0;clear hi210_0 hl210_0;replace p210:=eq_true p210;replace q210:=eq_true q210;have p211:0≤(1:Int):=(by omega)
             have q211:1<((Qce l1 x19_2).length:Int):=of_decide_eq_true (by first|(with_reducible assumption)|assumption);obtain ⟨ad211,e211,hx211_0⟩:=Kd.at_int HR210_0.out 1 p211 q211;cases e211
             (try simp only [show (1:Int).toNat=1 from rfl,Nat.reduceMul,Nat.reduceEqDiff,Go.Addr.add,↓reduceIte] at hx211_0)
             have qi211:(1<(Qce l1 x19_2).length)=True:=eq_true (by omega)
             (try rw [show ((1:Int)).toNat=1 from rfl] at hx211_0)
             replace hx211_0:=(HB.out.cell (World.block_lt_of_cell? w _ hx211_0)).trans hx211_0;replace p211:=eq_true p211;replace q211:=eq_true q211;go_wp2;go_roundg k2
             case measure=>have:=HK1.out;have:=HK2.out;omega
             case rel=>exact ⟨(wrap64 (x19_2+1)),(x210000_2),(u210000),(by first|rfl|(simp;done)|(simp [*];done)),H',⟨by have:=HK1.out;have:=HK2.out;omega⟩,⟨uR HO_210000⟩,⟨uK BK205⟩,⟨uK BK209⟩,⟨(vB HB)⟩⟩
           ·
            rw [if_neg c16] at H;exact absurd H (by simp)
          ·
           rw [if_neg c15] at H;exact absurd H (by simp)
         ·
          rw [if_neg c14] at H;exact absurd H (by simp)
        ·
         rw [if_neg c13] at H;have c13b0:=decide_eq_false c13;clear c13;have H':=Zk H;clear H;go_wp2;go_roundg k2
         case measure=>have:=HK1.out;have:=HK2.out;omega
         case rel=>exact ⟨(wrap64 (x6_1+1)),(x210000_2),(u210000),(by first|rfl|(simp;done)|(simp [*];done)),H',⟨by have:=HK1.out;have:=HK2.out;omega⟩,⟨uR HO_210000⟩,⟨uK BK205⟩,⟨uK BK209⟩,⟨(vB HB)⟩⟩
     ·
      rw [if_neg c12] at H;have c12b0:=decide_eq_false c12;clear c12;obtain rfl:=Option.some.inj H;have hnb28:=NB209_205.out;have hnc28:=NB205_209.out;have hcz29_0:=bC BK209;have hfz29_0:=Qg BK209.out 0;obtain ⟨Ao30,co30,eo30⟩:=Kd.R_slice HO_210000.out;subst eo30;have hcz31_0:=bC BK205;have hfz31_0:=Qg BK205.out 0;go_wp2;refine bodyPost_ret (results_cell_row rfl _ _ gb205 26 #[.slice Ao30 x210000_1.length co30] (0,0) _ rfl bP Try.underlying26 rfl (by kernel_rfl)) rfl ?_;exact ⟨_,by first|rfl|(simp [Qe,Qf] <;>rfl)|(simp [*,Qe,Qf] <;>rfl),by (with_reducible repeat (first|apply Kd.R_alloc|apply Kd.R_drewN|apply Kd.R_drew));exact Kd.R_mono (Kd.R_far (p:=⟨gb205,0,none⟩) (Kd.R_types HO_210000.out BK205.out (by decide)) (fun _ hk=>hk.2) (.slice Ao30 x210000_1.length co30)) (fun _ hk=>trivial),(vB HB)⟩
  ·
   rw [if_neg c4] at H;exact absurd H (by simp)
 ·
  rw [if_neg c3] at H;exact absurd H (by simp)
mutual
def Q8.l0:Nat→Int→Int→List (List Int)→Int→Option (List Int)
 |0,_,_,_,_=>none
 |k+1,x0,x1,x5,x6=>if x6<x0 then (Q8.l1 k x0 x1 x5 x6 0) else ((Qbi.f k (wrap64 (x0*x1)) x5).bind fun t218=>(some t218))
def Q8.l1:Nat→Int→Int→List (List Int)→Int→Int→Option (List Int)
 |0,_,_,_,_,_=>none
 |k+1,x0,x1,x5,x6,x7=>if x7<x1 then (if (wrap64 (x6+1))<x0 then (if x5.length<5864062014805 then ((some (x5++ [(([wrap64 ((wrap64 (x1*x6))+x7),wrap64 ((wrap64 ((wrap64 (x1*x6))+x1))+x7)] :List Int))] :List (List Int))).bind fun y224=>(if (wrap64 (x7+1))<x1 then (if y224.length<5864062014805 then (Q8.l1 k x0 x1 (y224++ [(([wrap64 ((wrap64 (x1*x6))+x7),wrap64 ((wrap64 ((wrap64 (x1*x6))+x7))+1)] :List Int))]) x6 (wrap64 (x7+1))) else (none)) else (Q8.l1 k x0 x1 y224 x6 (wrap64 (x7+1))))) else (none)) else (if (wrap64 (x7+1))<x1 then (if x5.length<5864062014805 then (Q8.l1 k x0 x1 (x5++ [(([wrap64 ((wrap64 (x1*x6))+x7),wrap64 ((wrap64 ((wrap64 (x1*x6))+x7))+1)] :List Int))]) x6 (wrap64 (x7+1))) else (none)) else (Q8.l1 k x0 x1 x5 x6 (wrap64 (x7+1))))) else (Q8.l0 k x0 x1 x5 (wrap64 (x6+1)))
end
def Q8.f (k:Nat) (a0:Int) (a1:Int):Option (List Int):=Q8.l0 k a0 a1 ([] :List (List Int)) 0
theorem Q8.mono_l: ∀ k,(∀ y0 y1 y2 y3,LeO (Q8.l0 k y0 y1 y2 y3) (Q8.l0 (k+1) y0 y1 y2 y3))∧(∀ y0 y1 y2 y3 y4,LeO (Q8.l1 k y0 y1 y2 y3 y4) (Q8.l1 (k+1) y0 y1 y2 y3 y4))
 |0=>⟨fun _ _ _ _ r h=>by simp [Q8.l0] at h,fun _ _ _ _ _ r h=>by simp [Q8.l1] at h⟩
 |k+1=>by
  obtain ⟨ih0,ih1⟩:=Q8.mono_l k;refine ⟨?_,?_⟩
  all_goals
   intros
   first|unfold Q8.l0|unfold Q8.l1
   repeat' (with_reducible first|apply ih0|apply ih1|apply Qbi.mono|exact LeO.refl _|exact LeO.none _|refine LeO.ite ?_ ?_|refine LeO.bind ?_ (fun _=> ?_))
theorem Q8.mono: ∀ a0 a1 k,LeO (Q8.f k a0 a1) (Q8.f (k+1) a0 a1):=by
 intro a0 a1 k;obtain ⟨ih0,ih1⟩:=Q8.mono_l k;unfold Q8.f
 repeat' (with_reducible first|apply ih0|apply ih1|apply Qbi.mono|exact LeO.refl _|exact LeO.none _|refine LeO.ite ?_ ?_|refine LeO.bind ?_ (fun _=> ?_))
set_option maxHeartbeats 8000000 in
set_option maxRecDepth 100000 in
theorem Q8.calls (k:Nat) (a0:Int) (a1:Int) (r:List Int) (w:World) (h:Q8.f k a0 a1=some r):
 Calls Try.prog 57 #[.int .i64 a0, .int .i64 a1] w fun e w'=> ∃ v0_:Value,e= .returned (.agg #[v0_])∧Kd.R (Kd.int .i64) 3 w' w.heap.size (fun _=>True) v0_ r∧Below w.heap.size w w':=by
 have hu26:=Try.underlying26;have HB:=Zk (Below.refl w.heap.size w);have H:(Q8.l0 k a0 a1 ([] :List (List Int)) 0)=some r:=h;clear h;have H':=Zk H;clear H;go_enter Try.func57,Try.ntmps57;go_wp2_with (first|(refine bE (N:=4) (cs:= #[.slice none 0 0]) (t:=26) ?_;intro gb217 hg w3 hbox hb;have BK217:=Zk (hbox);have GW217:=Zk ((by rw [hg];exact (Qh (uB HB)):w.heap.size≤gb217));have GE217:=GW217;replace HB:=Zk (Qc (uB HB) hb);clear hb hbox hg))
 go_loopg [5,6] k (fun kq v5 v6 w'=> ∃ (x5_1:List (List Int)) (x6_1:Int),v6= .int .i64 x6_1∧Z0 (Q8.l0 kq a0 a1 x5_1 x6_1=some r)∧Z0 (kq≤k)∧Z0 (Kd.S (Kd.slice 3 (Kd.int .i64)) 24 w' w.heap.size (fun _=>True) v5 x5_1)∧Z0 (w'.heap[gb217]? =some (.cells #[(.slice none 0 0)] 26 (0,0)))∧Z0 (Below w.heap.size w w'))
 case atStart=>exact ⟨(([] :List (List Int))),(0),(by first|rfl|(simp;done)|(simp [*];done)),H',⟨Nat.le_refl _⟩,⟨by first|exact Kd.S_nil _ _ _ _ _|exact Kd.N_nil _ _ _ _ _|exact Kd.V_nil _ _ _ _ _|exact Kd.Q_nil _ _ _ _ _|exact Kd.R_nil _ _ _ _ _⟩,⟨uK BK217⟩,⟨(vB HB)⟩⟩
 case round=>
  clear H'
  skip
  obtain ⟨x5_1,x6_1,rfl,HA,HK1,HO_5,BK217,HB⟩:=hrel;cases gk with
  |zero=>exact absurd HA.out (by simp [Q8.l0])
  |succ k1=>
   have H:=HA.out;clear HA;simp only [Q8.l0] at H
   by_cases c4:x6_1<a0
   ·
    rw [if_pos c4] at H;have c4b0:=decide_eq_true c4;clear c4;have H':=Zk H;clear H;go_wp2
    go_loopg [5,7] k1 (fun kq v5 v7 w'=> ∃ (x5_2:List (List Int)) (x7_2:Int),v7= .int .i64 x7_2∧Z0 (Q8.l1 kq a0 a1 x5_2 x6_1 x7_2=some r)∧Z0 (kq≤k1)∧Z0 (Kd.S (Kd.slice 3 (Kd.int .i64)) 24 w' w.heap.size (fun _=>True) v5 x5_2)∧Z0 (w'.heap[gb217]? =some (.cells #[(.slice none 0 0)] 26 (0,0)))∧Z0 (Below w.heap.size w w'))
    case atStart=>exact ⟨(x5_1),(0),(by first|rfl|(simp;done)|(simp [*];done)),H',⟨Nat.le_refl _⟩,⟨uS HO_5⟩,⟨uK BK217⟩,⟨(vB HB)⟩⟩
    case round=>
     clear H'
     try clear c4b0
     obtain ⟨x5_2,x7_2,rfl,HA,HK2,HO_5,BK217,HB⟩:=hrel;cases gk with
     |zero=>exact absurd HA.out (by simp [Q8.l1])
     |succ k2=>
      have H:=HA.out;clear HA;simp only [Q8.l1] at H
      by_cases c5:x7_2<a1
      ·
       rw [if_pos c5] at H;have c5b0:=decide_eq_true c5;clear c5
       by_cases c6:(wrap64 (x6_1+1))<a0
       ·
        rw [if_pos c6] at H;have c6b0:=decide_eq_true c6;clear c6;obtain ⟨y221,hy221⟩: ∃ y_:List Int,y_=(([wrap64 ((wrap64 (a1*x6_1))+x7_2),wrap64 ((wrap64 ((wrap64 (a1*x6_1))+a1))+x7_2)] :List Int)):=⟨_,rfl⟩
        replace H:(if x5_2.length<5864062014805 then ((some (x5_2++ [y221] :List (List Int))).bind fun y224=>(if (wrap64 (x7_2+1))<a1 then (if y224.length<5864062014805 then (Q8.l1 k2 a0 a1 (y224++ [(([wrap64 ((wrap64 (a1*x6_1))+x7_2),wrap64 ((wrap64 ((wrap64 (a1*x6_1))+x7_2))+1)] :List Int))]) x6_1 (wrap64 (x7_2+1))) else (none)) else (Q8.l1 k2 a0 a1 y224 x6_1 (wrap64 (x7_2+1))))) else (none))=some r:=by first|(rw [hy221];with_reducible exact H)|(have H2_:=(Option.bind_some _ _).symm.trans H;rw [hy221];with_reducible exact H2_)|(have H2_:=(Option.bind_some _ _).symm.trans H;with_reducible exact H2_)|with_reducible exact H|(rw [hy221];exact H)|exact H
        have Ny221:=Zk hy221;clear hy221
        by_cases c7:x5_2.length<5864062014805
        ·
         rw [if_pos c7] at H;have LMc7:=Zk c7;clear c7;obtain ⟨y224,hy224⟩: ∃ y_:List (List Int),y_=(x5_2++ [y221]):=⟨_,rfl⟩
         replace H:(if (wrap64 (x7_2+1))<a1 then (if y224.length<5864062014805 then (Q8.l1 k2 a0 a1 (y224++ [(([wrap64 ((wrap64 (a1*x6_1))+x7_2),wrap64 ((wrap64 ((wrap64 (a1*x6_1))+x7_2))+1)] :List Int))]) x6_1 (wrap64 (x7_2+1))) else (none)) else (Q8.l1 k2 a0 a1 y224 x6_1 (wrap64 (x7_2+1))))=some r:=by first|(rw [hy224];with_reducible exact H)|(have H2_:=(Option.bind_some _ _).symm.trans H;rw [hy224];with_reducible exact H2_)|(have H2_:=(Option.bind_some _ _).symm.trans H;with_reducible exact H2_)|with_reducible exact H|(rw [hy224];exact H)|exact H
         have Ny224:=Zk hy224;clear hy224
         by_cases c8:(wrap64 (x7_2+1))<a1
         ·
          rw [if_pos c8] at H;have c8b0:=decide_eq_true c8;clear c8;obtain ⟨y227,hy227⟩: ∃ y_:List Int,y_=(([wrap64 ((wrap64 (a1*x6_1))+x7_2),wrap64 ((wrap64 ((wrap64 (a1*x6_1))+x7_2))+1)] :List Int)):=⟨_,rfl⟩
          replace H:(if y224.length<5864062014805 then (Q8.l1 k2 a0 a1 (y224++ [y227]) x6_1 (wrap64 (x7_2+1))) else (none))=some r:=by first|(rw [hy227];with_reducible exact H)|(have H2_:=(Option.bind_some _ _).symm.trans H;rw [hy227];with_reducible exact H2_)|(have H2_:=(Option.bind_some _ _).symm.trans H;with_reducible exact H2_)|with_reducible exact H|(rw [hy227];exact H)|exact H
          have Ny227:=Zk hy227;clear hy227
          by_cases c9:y224.length<5864062014805
          ·
           rw [if_pos c9] at H;have LMc9:=Zk c9;clear c9;obtain ⟨y230,hy230⟩: ∃ y_:List (List Int),y_=(y224++ [y227]):=⟨_,rfl⟩
           replace H:(Q8.l1 k2 a0 a1 y230 x6_1 (wrap64 (x7_2+1)))=some r:=by first|(rw [hy230];with_reducible exact H)|(have H2_:=(Option.bind_some _ _).symm.trans H;rw [hy230];with_reducible exact H2_)|(have H2_:=(Option.bind_some _ _).symm.trans H;with_reducible exact H2_)|with_reducible exact H|(rw [hy230];exact H)|exact H
           have Ny230:=Zk hy230;clear hy230;have H':=Zk H;clear H;go_wp2_with (first|((with_reducible refine Qb2 (N:=35) rfl ?_);refine Kd.R_lit (Kd.int .i64) _ 3 ?hg (N:=35) ?hd (xs:=([wrap64 ((wrap64 (a1*x6_1))+x7_2),wrap64 ((wrap64 ((wrap64 (a1*x6_1))+a1))+x7_2)] :List Int)) (inner:= [.int .i64 (wrap64 ((wrap64 (a1*x6_1))+x7_2)), .int .i64 (wrap64 ((wrap64 ((wrap64 (a1*x6_1))+a1))+x7_2))]) (ok:=fun _=>True) (okp:=fun _=>True) ?hr ?hp (fun _ hk=>hk) trivial (Below.refl _ _) (Nat.le_refl _) (by simp) ?_;(case hd=>rfl);(case hg=>rfl);(case hr=>first|(go_simp;done)|(go_simp;rfl));(case hp=>exact (Reps.one (show Kd.M (Kd.int .i64) _ _ _ (wrap64 ((wrap64 (a1*x6_1))+x7_2)) [.int .i64 (wrap64 ((wrap64 (a1*x6_1))+x7_2))] from rfl) (Reps.one (show Kd.M (Kd.int .i64) _ _ _ (wrap64 ((wrap64 ((wrap64 (a1*x6_1))+a1))+x7_2)) [.int .i64 (wrap64 ((wrap64 ((wrap64 (a1*x6_1))+a1))+x7_2))] from rfl) (Reps.none _ _))));intro v222 w10 ho11 hb hg_ hnew_;clear hg_ hnew_;(first|rw [←Ny221.out] at ho11|(simp only [Int.reduceToNat] at ho11;rw [←Ny221.out] at ho11));replace HO_5:=Zk (Kd.S_elder' (uS HO_5) (Kd.R_base ho11) hb);have HO223:=Zk (Kd.R_lower ho11 (Qh (vB HB)));replace BK217:=Zk (Qd (uK BK217) hb);replace HB:=Zk (Qc (vB HB) hb);clear hb ho11;obtain ⟨Ao13,co13,eo13⟩:=Kd.R_slice HO223.out;subst eo13)|((with_reducible refine Qcl (b:= .append) (xs:= #[.tmp 22, .tmp 36]) rfl ?_);at_builtin;refine Kd.S_append (Kd.slice 3 (Kd.int .i64)) (w0:=w) w.heap.size rfl (.tmp 22) (.tmp 36) 29 24 (.slice none 0 0) 24 rfl Try.underlying29 Qfo rfl (by decide) (by omega) u5 x5_2 y221 [.slice Ao13 y221.length co13] (fun _=>True) (fun k_=>some k_=(.slice Ao13 y221.length co13:Value).ownBlock) rfl rfl ?aP (fun k_ hk_=>((Kd.R_mono (ok':=fun k_=>((fun _=>True)) k_∧some k_≠(u5:Value).ownBlock) (Kd.R_apart' (HO223.out) (Kd.S_typed HO_5.out) (by decide)) (fun k_ hk=>⟨trivial,hk.2⟩))).1 k_ hk_.symm) ?aF ?aO ?aB ?aS ?aL ?_;(case aP=>exact Kd.M_row (Kd.R_mono (Kd.R_tight rfl (Kd.R_mono (ok':=fun k_=>((fun _=>True)) k_∧some k_≠(u5:Value).ownBlock) (Kd.R_apart' (HO223.out) (Kd.S_typed HO_5.out) (by decide)) (fun k_ hk=>⟨trivial,hk.2⟩))) (fun _ h_=>h_)));(case aB=>exact (vB HB));(case aF=>exact (fun _ _=>trivial));(case aO=>exact (by (with_reducible repeat (first|apply Kd.S_alloc|apply Kd.S_drewN|apply Kd.S_drew));exact Kd.S_mono HO_5.out (fun k_ hk=>⟨trivial,fun e_=>hk.2 e_⟩)));(case aS=>exact (Qh (vB HB)));(case aL=>have:=LMc7.out;omega);intro v225 w12 ho hb hg hat;rw [←Ny224.out] at ho;replace BK217:=Zk (Qb8 (uK BK217) hg (Kd.S_ne HO_5.out BK217.out (by decide)));replace HB:=Zk (hb);have HO226:=Zk (ho);clear HO_5 HO223;clear ho hb hg hat)|((with_reducible refine Qb2 (N:=54) rfl ?_);refine Kd.R_lit (Kd.int .i64) _ 3 ?hg (N:=54) ?hd (xs:=([wrap64 ((wrap64 (a1*x6_1))+x7_2),wrap64 ((wrap64 ((wrap64 (a1*x6_1))+x7_2))+1)] :List Int)) (inner:= [.int .i64 (wrap64 ((wrap64 (a1*x6_1))+x7_2)), .int .i64 (wrap64 ((wrap64 ((wrap64 (a1*x6_1))+x7_2))+1))]) (ok:=fun _=>True) (okp:=fun _=>True) ?hr ?hp (fun _ hk=>hk) trivial (Below.refl _ _) (Nat.le_refl _) (by simp) ?_;(case hd=>rfl);(case hg=>rfl);(case hr=>first|(go_simp;done)|(go_simp;rfl));(case hp=>exact (Reps.one (show Kd.M (Kd.int .i64) _ _ _ (wrap64 ((wrap64 (a1*x6_1))+x7_2)) [.int .i64 (wrap64 ((wrap64 (a1*x6_1))+x7_2))] from rfl) (Reps.one (show Kd.M (Kd.int .i64) _ _ _ (wrap64 ((wrap64 ((wrap64 (a1*x6_1))+x7_2))+1)) [.int .i64 (wrap64 ((wrap64 ((wrap64 (a1*x6_1))+x7_2))+1))] from rfl) (Reps.none _ _))));intro v228 w14 ho15 hb hg_ hnew_;clear hg_ hnew_;(first|rw [←Ny227.out] at ho15|(simp only [Int.reduceToNat] at ho15;rw [←Ny227.out] at ho15));replace HO226:=Zk (Kd.S_elder' (uS HO226) (Kd.R_base ho15) hb);have HO229:=Zk (Kd.R_lower ho15 (Qh (vB HB)));replace BK217:=Zk (Qd (uK BK217) hb);replace HB:=Zk (Qc (vB HB) hb);clear hb ho15;obtain ⟨Ao17,co17,eo17⟩:=Kd.R_slice HO229.out;subst eo17)|((with_reducible refine Qcl (b:= .append) (xs:= #[.tmp 42, .tmp 55]) rfl ?_);at_builtin;refine Kd.S_append (Kd.slice 3 (Kd.int .i64)) (w0:=w) w.heap.size rfl (.tmp 42) (.tmp 55) 29 24 (.slice none 0 0) 24 rfl Try.underlying29 Qfo rfl (by decide) (by omega) v225 y224 y227 [.slice Ao17 y227.length co17] (fun _=>True) (fun k_=>some k_=(.slice Ao17 y227.length co17:Value).ownBlock) rfl rfl ?aP (fun k_ hk_=>((Kd.R_mono (ok':=fun k_=>((fun _=>True)) k_∧some k_≠(v225:Value).ownBlock) (Kd.R_apart' (HO229.out) (Kd.S_typed HO226.out) (by decide)) (fun k_ hk=>⟨trivial,hk.2⟩))).1 k_ hk_.symm) ?aF ?aO ?aB ?aS ?aL ?_;(case aP=>exact Kd.M_row (Kd.R_mono (Kd.R_tight rfl (Kd.R_mono (ok':=fun k_=>((fun _=>True)) k_∧some k_≠(v225:Value).ownBlock) (Kd.R_apart' (HO229.out) (Kd.S_typed HO226.out) (by decide)) (fun k_ hk=>⟨trivial,hk.2⟩))) (fun _ h_=>h_)));(case aB=>exact (vB HB));(case aF=>exact (fun _ _=>trivial));(case aO=>exact (by (with_reducible repeat (first|apply Kd.S_alloc|apply Kd.S_drewN|apply Kd.S_drew));exact Kd.S_mono HO226.out (fun k_ hk=>⟨trivial,fun e_=>hk.2 e_⟩)));(case aS=>exact (Qh (vB HB)));(case aL=>have:=LMc9.out;omega);intro v231 w16 ho hb hg hat;rw [←Ny230.out] at ho;replace BK217:=Zk (Qb8 (uK BK217) hg (Kd.S_ne HO226.out BK217.out (by decide)));replace HB:=Zk (hb);have HO232:=Zk (ho);clear HO226 HO229;clear ho hb hg hat))
           go_roundg k2
           case measure=>have:=HK1.out;have:=HK2.out;omega
           case rel=>exact ⟨(y230),(wrap64 (x7_2+1)),(by first|rfl|(simp;done)|(simp [*];done)),H',⟨by have:=HK1.out;have:=HK2.out;omega⟩,⟨uS HO232⟩,⟨uK BK217⟩,⟨(vB HB)⟩⟩
          ·
           rw [if_neg c9] at H;exact absurd H (by simp)
         ·
          rw [if_neg c8] at H;have c8b0:=decide_eq_false c8;clear c8;have H':=Zk H;clear H;go_wp2_with (first|((with_reducible refine Qb2 (N:=35) rfl ?_);refine Kd.R_lit (Kd.int .i64) _ 3 ?hg (N:=35) ?hd (xs:=([wrap64 ((wrap64 (a1*x6_1))+x7_2),wrap64 ((wrap64 ((wrap64 (a1*x6_1))+a1))+x7_2)] :List Int)) (inner:= [.int .i64 (wrap64 ((wrap64 (a1*x6_1))+x7_2)), .int .i64 (wrap64 ((wrap64 ((wrap64 (a1*x6_1))+a1))+x7_2))]) (ok:=fun _=>True) (okp:=fun _=>True) ?hr ?hp (fun _ hk=>hk) trivial (Below.refl _ _) (Nat.le_refl _) (by simp) ?_;(case hd=>rfl);(case hg=>rfl);(case hr=>first|(go_simp;done)|(go_simp;rfl));(case hp=>exact (Reps.one (show Kd.M (Kd.int .i64) _ _ _ (wrap64 ((wrap64 (a1*x6_1))+x7_2)) [.int .i64 (wrap64 ((wrap64 (a1*x6_1))+x7_2))] from rfl) (Reps.one (show Kd.M (Kd.int .i64) _ _ _ (wrap64 ((wrap64 ((wrap64 (a1*x6_1))+a1))+x7_2)) [.int .i64 (wrap64 ((wrap64 ((wrap64 (a1*x6_1))+a1))+x7_2))] from rfl) (Reps.none _ _))));intro v222 w18 ho19 hb hg_ hnew_;clear hg_ hnew_;(first|rw [←Ny221.out] at ho19|(simp only [Int.reduceToNat] at ho19;rw [←Ny221.out] at ho19));replace HO_5:=Zk (Kd.S_elder' (uS HO_5) (Kd.R_base ho19) hb);have HO223:=Zk (Kd.R_lower ho19 (Qh (vB HB)));replace BK217:=Zk (Qd (uK BK217) hb);replace HB:=Zk (Qc (vB HB) hb);clear hb ho19;obtain ⟨Ao21,co21,eo21⟩:=Kd.R_slice HO223.out;subst eo21)|((with_reducible refine Qcl (b:= .append) (xs:= #[.tmp 22, .tmp 36]) rfl ?_);at_builtin;refine Kd.S_append (Kd.slice 3 (Kd.int .i64)) (w0:=w) w.heap.size rfl (.tmp 22) (.tmp 36) 29 24 (.slice none 0 0) 24 rfl Try.underlying29 Qfo rfl (by decide) (by omega) u5 x5_2 y221 [.slice Ao21 y221.length co21] (fun _=>True) (fun k_=>some k_=(.slice Ao21 y221.length co21:Value).ownBlock) rfl rfl ?aP (fun k_ hk_=>((Kd.R_mono (ok':=fun k_=>((fun _=>True)) k_∧some k_≠(u5:Value).ownBlock) (Kd.R_apart' (HO223.out) (Kd.S_typed HO_5.out) (by decide)) (fun k_ hk=>⟨trivial,hk.2⟩))).1 k_ hk_.symm) ?aF ?aO ?aB ?aS ?aL ?_;(case aP=>exact Kd.M_row (Kd.R_mono (Kd.R_tight rfl (Kd.R_mono (ok':=fun k_=>((fun _=>True)) k_∧some k_≠(u5:Value).ownBlock) (Kd.R_apart' (HO223.out) (Kd.S_typed HO_5.out) (by decide)) (fun k_ hk=>⟨trivial,hk.2⟩))) (fun _ h_=>h_)));(case aB=>exact (vB HB));(case aF=>exact (fun _ _=>trivial));(case aO=>exact (by (with_reducible repeat (first|apply Kd.S_alloc|apply Kd.S_drewN|apply Kd.S_drew));exact Kd.S_mono HO_5.out (fun k_ hk=>⟨trivial,fun e_=>hk.2 e_⟩)));(case aS=>exact (Qh (vB HB)));(case aL=>have:=LMc7.out;omega);intro v225 w20 ho hb hg hat;rw [←Ny224.out] at ho;replace BK217:=Zk (Qb8 (uK BK217) hg (Kd.S_ne HO_5.out BK217.out (by decide)));replace HB:=Zk (hb);have HO226:=Zk (ho);clear HO_5 HO223;clear ho hb hg hat));go_roundg k2
          case measure=>have:=HK1.out;have:=HK2.out;omega
          case rel=>exact ⟨(y224),(wrap64 (x7_2+1)),(by first|rfl|(simp;done)|(simp [*];done)),H',⟨by have:=HK1.out;have:=HK2.out;omega⟩,⟨uS HO226⟩,⟨uK BK217⟩,⟨(vB HB)⟩⟩
        ·
         rw [if_neg c7] at H;exact absurd H (by simp)
       ·
        rw [if_neg c6] at H;have c6b0:=decide_eq_false c6;clear c6
        by_cases c22:(wrap64 (x7_2+1))<a1
        ·
         rw [if_pos c22] at H;have c22b0:=decide_eq_true c22;clear c22;obtain ⟨y233,hy233⟩: ∃ y_:List Int,y_=(([wrap64 ((wrap64 (a1*x6_1))+x7_2),wrap64 ((wrap64 ((wrap64 (a1*x6_1))+x7_2))+1)] :List Int)):=⟨_,rfl⟩
         replace H:(if x5_2.length<5864062014805 then (Q8.l1 k2 a0 a1 (x5_2++ [y233]) x6_1 (wrap64 (x7_2+1))) else (none))=some r:=by first|(rw [hy233];with_reducible exact H)|(have H2_:=(Option.bind_some _ _).symm.trans H;rw [hy233];with_reducible exact H2_)|(have H2_:=(Option.bind_some _ _).symm.trans H;with_reducible exact H2_)|with_reducible exact H|(rw [hy233];exact H)|exact H
         have Ny233:=Zk hy233;clear hy233
         by_cases c23:x5_2.length<5864062014805
         ·
          rw [if_pos c23] at H;have LMc23:=Zk c23;clear c23;obtain ⟨y236,hy236⟩: ∃ y_:List (List Int),y_=(x5_2++ [y233]):=⟨_,rfl⟩
          replace H:(Q8.l1 k2 a0 a1 y236 x6_1 (wrap64 (x7_2+1)))=some r:=by first|(rw [hy236];with_reducible exact H)|(have H2_:=(Option.bind_some _ _).symm.trans H;rw [hy236];with_reducible exact H2_)|(have H2_:=(Option.bind_some _ _).symm.trans H;with_reducible exact H2_)|with_reducible exact H|(rw [hy236];exact H)|exact H
          have Ny236:=Zk hy236;clear hy236;have H':=Zk H;clear H;go_wp2_with (first|((with_reducible refine Qb2 (N:=54) rfl ?_);refine Kd.R_lit (Kd.int .i64) _ 3 ?hg (N:=54) ?hd (xs:=([wrap64 ((wrap64 (a1*x6_1))+x7_2),wrap64 ((wrap64 ((wrap64 (a1*x6_1))+x7_2))+1)] :List Int)) (inner:= [.int .i64 (wrap64 ((wrap64 (a1*x6_1))+x7_2)), .int .i64 (wrap64 ((wrap64 ((wrap64 (a1*x6_1))+x7_2))+1))]) (ok:=fun _=>True) (okp:=fun _=>True) ?hr ?hp (fun _ hk=>hk) trivial (Below.refl _ _) (Nat.le_refl _) (by simp) ?_;(case hd=>rfl);(case hg=>rfl);(case hr=>first|(go_simp;done)|(go_simp;rfl));(case hp=>exact (Reps.one (show Kd.M (Kd.int .i64) _ _ _ (wrap64 ((wrap64 (a1*x6_1))+x7_2)) [.int .i64 (wrap64 ((wrap64 (a1*x6_1))+x7_2))] from rfl) (Reps.one (show Kd.M (Kd.int .i64) _ _ _ (wrap64 ((wrap64 ((wrap64 (a1*x6_1))+x7_2))+1)) [.int .i64 (wrap64 ((wrap64 ((wrap64 (a1*x6_1))+x7_2))+1))] from rfl) (Reps.none _ _))));intro v234 w24 ho25 hb hg_ hnew_;clear hg_ hnew_;(first|rw [←Ny233.out] at ho25|(simp only [Int.reduceToNat] at ho25;rw [←Ny233.out] at ho25));replace HO_5:=Zk (Kd.S_elder' (uS HO_5) (Kd.R_base ho25) hb);have HO235:=Zk (Kd.R_lower ho25 (Qh (vB HB)));replace BK217:=Zk (Qd (uK BK217) hb);replace HB:=Zk (Qc (vB HB) hb);clear hb ho25;obtain ⟨Ao27,co27,eo27⟩:=Kd.R_slice HO235.out;subst eo27)|((with_reducible refine Qcl (b:= .append) (xs:= #[.tmp 42, .tmp 55]) rfl ?_);at_builtin;refine Kd.S_append (Kd.slice 3 (Kd.int .i64)) (w0:=w) w.heap.size rfl (.tmp 42) (.tmp 55) 29 24 (.slice none 0 0) 24 rfl Try.underlying29 Qfo rfl (by decide) (by omega) u5 x5_2 y233 [.slice Ao27 y233.length co27] (fun _=>True) (fun k_=>some k_=(.slice Ao27 y233.length co27:Value).ownBlock) rfl rfl ?aP (fun k_ hk_=>((Kd.R_mono (ok':=fun k_=>((fun _=>True)) k_∧some k_≠(u5:Value).ownBlock) (Kd.R_apart' (HO235.out) (Kd.S_typed HO_5.out) (by decide)) (fun k_ hk=>⟨trivial,hk.2⟩))).1 k_ hk_.symm) ?aF ?aO ?aB ?aS ?aL ?_;(case aP=>exact Kd.M_row (Kd.R_mono (Kd.R_tight rfl (Kd.R_mono (ok':=fun k_=>((fun _=>True)) k_∧some k_≠(u5:Value).ownBlock) (Kd.R_apart' (HO235.out) (Kd.S_typed HO_5.out) (by decide)) (fun k_ hk=>⟨trivial,hk.2⟩))) (fun _ h_=>h_)));(case aB=>exact (vB HB));(case aF=>exact (fun _ _=>trivial));(case aO=>exact (by (with_reducible repeat (first|apply Kd.S_alloc|apply Kd.S_drewN|apply Kd.S_drew));exact Kd.S_mono HO_5.out (fun k_ hk=>⟨trivial,fun e_=>hk.2 e_⟩)));(case aS=>exact (Qh (vB HB)));(case aL=>have:=LMc23.out;omega);intro v237 w26 ho hb hg hat;rw [←Ny236.out] at ho;replace BK217:=Zk (Qb8 (uK BK217) hg (Kd.S_ne HO_5.out BK217.out (by decide)));replace HB:=Zk (hb);have HO238:=Zk (ho);clear HO_5 HO235;clear ho hb hg hat));go_roundg k2
          case measure=>have:=HK1.out;have:=HK2.out;omega
          case rel=>exact ⟨(y236),(wrap64 (x7_2+1)),(by first|rfl|(simp;done)|(simp [*];done)),H',⟨by have:=HK1.out;have:=HK2.out;omega⟩,⟨uS HO238⟩,⟨uK BK217⟩,⟨(vB HB)⟩⟩
         ·
          rw [if_neg c23] at H;exact absurd H (by simp)
        ·
         rw [if_neg c22] at H;have c22b0:=decide_eq_false c22;clear c22;have H':=Zk H;clear H;go_wp2;go_roundg k2
         case measure=>have:=HK1.out;have:=HK2.out;omega
         case rel=>exact ⟨(x5_2),(wrap64 (x7_2+1)),(by first|rfl|(simp;done)|(simp [*];done)),H',⟨by have:=HK1.out;have:=HK2.out;omega⟩,⟨uS HO_5⟩,⟨uK BK217⟩,⟨(vB HB)⟩⟩
      ·
       rw [if_neg c5] at H;have c5b0:=decide_eq_false c5;clear c5;have H':=Zk H;clear H;go_wp2;go_roundg k2
       case measure=>have:=HK1.out;have:=HK2.out;omega
       case rel=>exact ⟨(x5_2),(wrap64 (x6_1+1)),(by first|rfl|(simp;done)|(simp [*];done)),H',⟨by have:=HK1.out;have:=HK2.out;omega⟩,⟨uS HO_5⟩,⟨uK BK217⟩,⟨(vB HB)⟩⟩
   ·
    rw [if_neg c4] at H;have c4b0:=decide_eq_false c4;clear c4;obtain ⟨t218,A28,H⟩:=bs H;(try dsimp only at H)
    obtain rfl:=Option.some.inj H;obtain ⟨Ao29,co29,eo29⟩:=Kd.S_slice HO_5.out;subst eo29;go_wp2_with (first|(refine gA (some 61) Try.func113 #[.int .i64 (wrap64 (a0*a1)), .slice Ao29 x5_1.length co29] ?_;(with_reducible refine (Qbi.calls k1 (wrap64 (a0*a1)) _ _ x5_1 t218 _ ?side1 ?side2 A28.out).mono ?_);(case side1=>repeat (first|exact (Kd.S_reads' HO_5.out).2.2|(with_reducible refine Kd.C_alloc ?_ _)|(with_reducible refine Kd.C_drewN ?_ _)|(with_reducible refine Kd.C_drew ?_)));(case side2=>exact (Kd.S_reads' HO_5.out).2.1);rintro e w30 ⟨v219,rfl,ho0,hb⟩;refine ⟨_,rfl,?_⟩;replace HO_5:=Zk (Kd.S_elder' (uS HO_5) (Kd.R_base ho0) hb);have HO220:=Zk (Kd.R_lower ho0 (Qh (vB HB)));replace BK217:=Zk (Qd (uK BK217) hb);replace HB:=Zk (Qc (vB HB) hb);(try clear hb ho0);obtain ⟨Ao31,co31,eo31⟩:=Kd.R_slice HO220.out;subst eo31;have hcz32_0:=bC BK217;have hfz32_0:=Qg BK217.out 0));refine bodyPost_ret (results_cell_row rfl _ _ gb217 26 #[.slice Ao31 t218.length co31] (0,0) _ rfl bP Try.underlying26 rfl (by kernel_rfl)) rfl ?_;exact ⟨_,by first|rfl|(simp [Qe,Qf] <;>rfl)|(simp [*,Qe,Qf] <;>rfl),by (with_reducible repeat (first|apply Kd.R_alloc|apply Kd.R_drewN|apply Kd.R_drew));exact Kd.R_mono (Kd.R_far (p:=⟨gb217,0,none⟩) (Kd.R_types HO220.out BK217.out (by decide)) (fun _ hk=>hk.2) (.slice Ao31 t218.length co31)) (fun _ hk=>trivial),(vB HB)⟩
end Go.Proofs.Ytkgngggppcmpfaa.L
end
section
namespace Go.Proofs.Ytkgngggppcmpfaa.L
open Go.RowKit Go.Proofs.YtkgngggppcmpfaaW.PrintWords Go.Proofs.YtkgngggppcmpfaaW.PrintLast Go.Proofs.YtkgngggppcmpfaaW.PrintMore
attribute [local go_sem] Qbd Qbf Qbn Qbo Q3 Q4 Qbe Qbg
set_option linter.unusedVariables false
set_option linter.unusedSimpArgs false
def Qcn.f (a0:Int) (a1:Int) (a2:Int):Option (Bool):=if a0 ≥ a1 then (some (decide (a0≤a2))) else (some false)
set_option maxHeartbeats 8000000 in
set_option maxRecDepth 100000 in
theorem Qcn.calls (a0:Int) (a1:Int) (a2:Int) (r:Bool) (w:World) (h:Qcn.f a0 a1 a2=some r):
 Calls Try.prog 95 #[.int .i64 a0, .int .i64 a1, .int .i64 a2] w fun e w'=>e= .returned (.bool r)∧Drawn0 w w':=by
 have H:(if a0 ≥ a1 then (some (decide (a0≤a2))) else (some false))=some r:=h;clear h
 by_cases c4:a0 ≥ a1
 ·
  rw [if_pos c4] at H;have c4b0:=decide_eq_true c4;clear c4;obtain rfl:=Option.some.inj H;go_enter Try.func95,Try.ntmps95;go_wp2
  go_ret
  exact ⟨by first|rfl|(simp;done)|(simp [*];done),by repeat (first|exact Drawn0.refl _|apply Drawn0.step)⟩
 ·
  rw [if_neg c4] at H;have c4b0:=decide_eq_false c4;clear c4;obtain rfl:=Option.some.inj H;go_enter Try.func95,Try.ntmps95;go_wp2
  go_ret
  exact ⟨by first|rfl|(simp;done)|(simp [*];done),by repeat (first|exact Drawn0.refl _|apply Drawn0.step)⟩
end Go.Proofs.Ytkgngggppcmpfaa.L
end
section
namespace Go.Proofs.Ytkgngggppcmpfaa.L
open Go.RowKit Go.Proofs.YtkgngggppcmpfaaW.PrintWords Go.Proofs.YtkgngggppcmpfaaW.PrintLast Go.Proofs.YtkgngggppcmpfaaW.PrintMore Go.Proofs.Ytkgngggppcmpfaa.X
attribute [local go_sem] Qbd Qbf Qbn Qbo Q3 Q4 Qbe Qbg
set_option linter.unusedVariables false
set_option linter.unusedSimpArgs false
def Qr.m1 (xs:List (List Int)) (x:Nat) (s:List Int):Nat→Int→List Int→Option (List Int)
 |0,y,F=>if y<(xs.length:Int) then none else some F
 |n+1,y,F=>if y<(xs.length:Int) then (if 0≤y∧1<s.length∧1<(xs.getD y.toNat []).length then Qr.m1 xs x s n (wrap64 (y+1)) (if (x:Int)≠y∧rd s 0≤rd (xs.getD y.toNat []) 0∧rd (xs.getD y.toNat []) 1≤rd s 1 then F.set x (Go.bits .or .i64 (rd F x) (shl .i64 1 y)) else F) else none) else some F
def Qr.m0 (xs:List (List Int)):Nat→Int→List Int→Option (List Int)
 |0,x,F=>if x<(xs.length:Int) then none else some F
 |n+1,x,F=>if x<(xs.length:Int) then (if 0≤x then (Qr.m1 xs x.toNat (xs.getD x.toNat []) xs.length 0 F).bind fun F=>Qr.m0 xs n (wrap64 (x+1)) F else none) else some F
def Qr.p2 (xs:List (List Int)):Option (List Int × Bool):=if xs.length≤35184372088832 then (Qr.m0 xs xs.length 0 (List.replicate xs.length 0)).map (·,true) else none
mutual
def Qr.l0:Nat→Int→Bool→List (List Int)→Int→Option (List Int × Bool)
 |0,_,_,_,_=>none
 |k+1,x0,x3,x4,x5=>if x5≤x0 then (Qr.l1 k x0 x3 x4 x5 0) else Qr.p2 x4
def Qr.l1:Nat→Int→Bool→List (List Int)→Int→Int→Option (List Int × Bool)
 |0,_,_,_,_,_=>none
 |k+1,x0,x3,x4,x5,x6=>if (wrap64 (x6+x5))≤x0 then (if x4.length<5864062014805 then (Qr.l1 k x0 x3 (x4++ [(([x6,wrap64 (x6+x5)] :List Int))]) x5 (wrap64 (x6+1))) else (none)) else (Qr.l0 k x0 x3 x4 (wrap64 (x5+1)))
end
def Qr.f (k:Nat) (a0:Int):Option (List Int × Bool):=(Qcn.f a0 1 4).bind fun t156=>(if t156=true then (Qr.l0 k a0 false ([] :List (List Int)) 1) else (some (([] :List Int),false)))
theorem Qr.mono_l: ∀ k,(∀ y0 y1 y2 y3,LeO (Qr.l0 k y0 y1 y2 y3) (Qr.l0 (k+1) y0 y1 y2 y3))∧(∀ y0 y1 y2 y3 y4,LeO (Qr.l1 k y0 y1 y2 y3 y4) (Qr.l1 (k+1) y0 y1 y2 y3 y4))
 |0=>⟨fun _ _ _ _ r h=>by simp [Qr.l0] at h,fun _ _ _ _ _ r h=>by simp [Qr.l1] at h⟩
 |k+1=>by
  obtain ⟨ih0,ih1⟩:=Qr.mono_l k;refine ⟨?_,?_⟩
  all_goals
   intros
   first|unfold Qr.l0|unfold Qr.l1
   repeat' (with_reducible first|apply ih0|apply ih1|exact LeO.refl _|exact LeO.none _|refine LeO.ite ?_ ?_|refine LeO.bind ?_ (fun _=> ?_))
theorem Qr.mono: ∀ a0 k,LeO (Qr.f k a0) (Qr.f (k+1) a0):=by
 intro a0 k;obtain ⟨ih0,ih1⟩:=Qr.mono_l k;unfold Qr.f
 repeat' (with_reducible first|apply ih0|apply ih1|exact LeO.refl _|exact LeO.none _|refine LeO.ite ?_ ?_|refine LeO.bind ?_ (fun _=> ?_))
theorem Qr.lit_R {α:Type} (d:Kd α) {W:World} (base e g:Nat) {xs:List α} {inner:List Value} {ok okp:Nat→Prop} (hrep:Reps (d.M W base okp) d.sz xs inner) (hok: ∀ k,okp k→ok k) (hg:g=W.heap.size) (hfresh:ok g) (hbase:base≤g) (hm:xs.length≤9223372036854775807):
 d.R e (W.alloc (.cells inner.toArray e)) base ok (.slice (some ⟨g,0,none⟩) xs.length xs.length) xs:=by
 subst hg;refine ⟨fun k hk=> ?_,inner,?_,?_⟩
 ·
  have:W.heap.size=k:=by simpa [Value.ownBlock] using hk
  subst this;exact hfresh
 ·
  have h2:=World.ownsRow_lit (base:=base) (e:=e) (size:=d.sz) W inner.toArray xs.length hbase (by simpa [maxLen] using hm) (by simpa using hrep.1)
  simpa using h2
 ·
  refine hrep.imp_ (fun p c hp=>d.M_mono (fun k hk=>⟨hok k hk.1,fun he=> ?_⟩) (Kd.M_below (d.M_bound hp) (Qq (Below.refl _ _) _)));have h3:k=W.heap.size:=by simpa [Value.ownBlock] using he
  have:=hk.2.2.1;omega
theorem Qr.made_R (W:World) (base g m:Nat) (hg:g=W.heap.size) (hbase:base≤g) (hm:m≤35184372088832):
 Kd.R (Kd.int .i64) 3 (W.alloc (.cells (madeCells #[.int .i64 0] m) 3)) base (fun _=>True) (.slice (some ⟨g,0,none⟩) m m) (List.replicate m 0):=by
 have hr:Reps ((Kd.int .i64).M W base (fun _=>True)) 1 (List.replicate m (0:Int)) (madeCells (Value.int .i64 0).cells (m*1)).toList:=Kd.reps_made (z:= .int .i64 0) rfl (by decide) (by constructor<;>first|rfl|trivial) m;have h:=Qr.lit_R (Kd.int .i64) base 3 g (ok:=fun _=>True) (okp:=fun _=>False) hr (fun _ h=>h.elim) hg trivial hbase (by rw [List.length_replicate];omega);rw [List.length_replicate,Nat.mul_one] at h;exact h
set_option maxHeartbeats 8000000 in
set_option maxRecDepth 100000 in
theorem Qr.calls (k:Nat) (a0:Int) (r1:List Int) (r2:Bool) (w:World) (h:Qr.f k a0=some (r1,r2)):
 Calls Try.prog 136 #[.int .i64 a0] w fun e w'=> ∃ v0_:Value,e= .returned (.tuple #[.agg #[v0_], .bool r2])∧Kd.R (Kd.int .i64) 3 w' w.heap.size (fun _=>True) v0_ r1∧Below w.heap.size w w':=by
 have hu:=Try.underlying26;have HB:=Zk (Below.refl w.heap.size w);have H:((Qcn.f a0 1 4).bind fun t156=>(if t156=true then (Qr.l0 k a0 false ([] :List (List Int)) 1) else (some (([] :List Int),false))))=some (r1,r2):=h;clear h;obtain ⟨t156,A2,H⟩:=bs H;(try dsimp only at H)
 by_cases c3:t156=true
 ·
  subst c3;rw [if_pos rfl] at H;have H':=Zk H;clear H;go_enter Try.func136,Try.ntmps136;go_wp2_with (first|(refine bE (N:=2) (cs:= #[.slice none 0 0]) (t:=26) ?_;intro gb155 hg w4 hbox hb;have BK155:=Zk (hbox);have GW155:=Zk ((by rw [hg];exact (Qh (uB HB)):w.heap.size≤gb155));have GE155:=GW155;replace HB:=Zk (Qc (uB HB) hb);clear hb hbox hg)|(refine gA (some 13) Try.func95 #[.int .i64 a0, .int .i64 1, .int .i64 4] ?_;(with_reducible refine (Qcn.calls a0 1 4 true _ A2.out).mono ?_);rintro e w' ⟨rfl,⟨nd,rfl⟩⟩;refine ⟨_,rfl,?_⟩))
  go_loopg [4,5] k (fun kq v4 v5 w'=> ∃ (x4_1:List (List Int)) (x5_1:Int),v5= .int .i64 x5_1∧Z0 (Qr.l0 kq a0 false x4_1 x5_1=some (r1,r2))∧Z0 (kq≤k)∧Z0 (Kd.S (Kd.slice 3 (Kd.int .i64)) 24 w' w.heap.size (fun _=>True) v4 x4_1)∧Z0 (w'.heap[gb155]? =some (.cells #[(.slice none 0 0)] 26 (0,0)))∧Z0 (Below w.heap.size w w'))
  case atStart=>exact ⟨(([] :List (List Int))),(1),(by first|rfl|(simp;done)|(simp [*];done)),H',⟨Nat.le_refl _⟩,⟨by first|exact Kd.S_nil _ _ _ _ _|exact Kd.N_nil _ _ _ _ _|exact Kd.V_nil _ _ _ _ _|exact Kd.Q_nil _ _ _ _ _|exact Kd.R_nil _ _ _ _ _⟩,⟨uK BK155⟩,⟨(vB HB)⟩⟩
  case round=>
   clear H'
   skip
   obtain ⟨x4_1,x5_1,rfl,HA,HK1,HO_4,BK155,HB⟩:=hrel;cases gk with
   |zero=>exact absurd HA.out (by simp [Qr.l0])
   |succ k1=>
    have H:=HA.out;clear HA;simp only [Qr.l0] at H
    by_cases c5:x5_1≤a0
    ·
     rw [if_pos c5] at H;have c5b0:=decide_eq_true c5;clear c5;have H':=Zk H;clear H;go_wp2
     go_loopg [4,6] k1 (fun kq v4 v6 w'=> ∃ (x4_2:List (List Int)) (x6_2:Int),v6= .int .i64 x6_2∧Z0 (Qr.l1 kq a0 false x4_2 x5_1 x6_2=some (r1,r2))∧Z0 (kq≤k1)∧Z0 (Kd.S (Kd.slice 3 (Kd.int .i64)) 24 w' w.heap.size (fun _=>True) v4 x4_2)∧Z0 (w'.heap[gb155]? =some (.cells #[(.slice none 0 0)] 26 (0,0)))∧Z0 (Below w.heap.size w w'))
     case atStart=>exact ⟨(x4_1),(0),(by first|rfl|(simp;done)|(simp [*];done)),H',⟨Nat.le_refl _⟩,⟨uS HO_4⟩,⟨uK BK155⟩,⟨(vB HB)⟩⟩
     case round=>
      clear H'
      try clear c5b0
      obtain ⟨x4_2,x6_2,rfl,HA,HK2,HO_4,BK155,HB⟩:=hrel;cases gk with
      |zero=>exact absurd HA.out (by simp [Qr.l1])
      |succ k2=>
       have H:=HA.out;clear HA;simp only [Qr.l1] at H
       by_cases c6:(wrap64 (x6_2+x5_1))≤a0
       ·
        rw [if_pos c6] at H;have c6b0:=decide_eq_true c6;clear c6;obtain ⟨y157,hy157⟩: ∃ y_:List Int,y_=(([x6_2,wrap64 (x6_2+x5_1)] :List Int)):=⟨_,rfl⟩
        replace H:(if x4_2.length<5864062014805 then (Qr.l1 k2 a0 false (x4_2++ [y157]) x5_1 (wrap64 (x6_2+1))) else (none))=some (r1,r2):=by first|(rw [hy157];with_reducible exact H)|(have H2_:=(Option.bind_some _ _).symm.trans H;rw [hy157];with_reducible exact H2_)|(have H2_:=(Option.bind_some _ _).symm.trans H;with_reducible exact H2_)|with_reducible exact H|(rw [hy157];exact H)|exact H
        have Ny157:=Zk hy157;clear hy157
        by_cases c7:x4_2.length<5864062014805
        ·
         rw [if_pos c7] at H;have LMc7:=Zk c7;clear c7;obtain ⟨y160,hy160⟩: ∃ y_:List (List Int),y_=(x4_2++ [y157]):=⟨_,rfl⟩
         replace H:(Qr.l1 k2 a0 false y160 x5_1 (wrap64 (x6_2+1)))=some (r1,r2):=by first|(rw [hy160];with_reducible exact H)|(have H2_:=(Option.bind_some _ _).symm.trans H;rw [hy160];with_reducible exact H2_)|(have H2_:=(Option.bind_some _ _).symm.trans H;with_reducible exact H2_)|with_reducible exact H|(rw [hy160];exact H)|exact H
         have Ny160:=Zk hy160;clear hy160;have H':=Zk H;clear H;go_wp2_with (first|((with_reducible refine Qb2 (N:=33) rfl ?_);refine Kd.R_lit (Kd.int .i64) _ 3 ?hg (N:=33) ?hd (xs:=([x6_2,wrap64 (x6_2+x5_1)] :List Int)) (inner:= [.int .i64 x6_2, .int .i64 (wrap64 (x6_2+x5_1))]) (ok:=fun _=>True) (okp:=fun _=>True) ?hr ?hp (fun _ hk=>hk) trivial (Below.refl _ _) (Nat.le_refl _) (by simp) ?_;(case hd=>rfl);(case hg=>rfl);(case hr=>first|(go_simp;done)|(go_simp;rfl));(case hp=>exact (Reps.one (show Kd.M (Kd.int .i64) _ _ _ x6_2 [.int .i64 x6_2] from rfl) (Reps.one (show Kd.M (Kd.int .i64) _ _ _ (wrap64 (x6_2+x5_1)) [.int .i64 (wrap64 (x6_2+x5_1))] from rfl) (Reps.none _ _))));intro v158 w8 ho9 hb hg_ hnew_;clear hg_ hnew_;(first|rw [←Ny157.out] at ho9|(simp only [Int.reduceToNat] at ho9;rw [←Ny157.out] at ho9));replace HO_4:=Zk (Kd.S_elder' (uS HO_4) (Kd.R_base ho9) hb);have HO159:=Zk (Kd.R_lower ho9 (Qh (vB HB)));replace BK155:=Zk (Qd (uK BK155) hb);replace HB:=Zk (Qc (vB HB) hb);clear hb ho9;obtain ⟨Ao11,co11,eo11⟩:=Kd.R_slice HO159.out;subst eo11)|((with_reducible refine Qcl (b:= .append) (xs:= #[.tmp 28, .tmp 34]) rfl ?_);at_builtin;refine Kd.S_append (Kd.slice 3 (Kd.int .i64)) (w0:=w) w.heap.size rfl (.tmp 28) (.tmp 34) 29 24 (.slice none 0 0) 24 rfl Try.underlying29 Qfo rfl (by decide) (by omega) u4 x4_2 y157 [.slice Ao11 y157.length co11] (fun _=>True) (fun k_=>some k_=(.slice Ao11 y157.length co11:Value).ownBlock) rfl rfl ?aP (fun k_ hk_=>((Kd.R_mono (ok':=fun k_=>((fun _=>True)) k_∧some k_≠(u4:Value).ownBlock) (Kd.R_apart' (HO159.out) (Kd.S_typed HO_4.out) (by decide)) (fun k_ hk=>⟨trivial,hk.2⟩))).1 k_ hk_.symm) ?aF ?aO ?aB ?aS ?aL ?_;(case aP=>exact Kd.M_row (Kd.R_mono (Kd.R_tight rfl (Kd.R_mono (ok':=fun k_=>((fun _=>True)) k_∧some k_≠(u4:Value).ownBlock) (Kd.R_apart' (HO159.out) (Kd.S_typed HO_4.out) (by decide)) (fun k_ hk=>⟨trivial,hk.2⟩))) (fun _ h_=>h_)));(case aB=>exact (vB HB));(case aF=>exact (fun _ _=>trivial));(case aO=>exact (by (with_reducible repeat (first|apply Kd.S_alloc|apply Kd.S_drewN|apply Kd.S_drew));exact Kd.S_mono HO_4.out (fun k_ hk=>⟨trivial,fun e_=>hk.2 e_⟩)));(case aS=>exact (Qh (vB HB)));(case aL=>have:=LMc7.out;omega);intro v161 w10 ho hb hg hat;rw [←Ny160.out] at ho;replace BK155:=Zk (Qb8 (uK BK155) hg (Kd.S_ne HO_4.out BK155.out (by decide)));replace HB:=Zk (hb);have HO162:=Zk (ho);clear HO_4 HO159;clear ho hb hg hat));go_roundg k2
         case measure=>have:=HK1.out;have:=HK2.out;omega
         case rel=>exact ⟨(y160),(wrap64 (x6_2+1)),(by first|rfl|(simp;done)|(simp [*];done)),H',⟨by have:=HK1.out;have:=HK2.out;omega⟩,⟨uS HO162⟩,⟨uK BK155⟩,⟨(vB HB)⟩⟩
        ·
         rw [if_neg c7] at H;exact absurd H (by simp)
       ·
        rw [if_neg c6] at H;have c6b0:=decide_eq_false c6;clear c6;have H':=Zk H;clear H;go_wp2;go_roundg k2
        case measure=>have:=HK1.out;have:=HK2.out;omega
        case rel=>exact ⟨(x4_2),(wrap64 (x5_1+1)),(by first|rfl|(simp;done)|(simp [*];done)),H',⟨by have:=HK1.out;have:=HK2.out;omega⟩,⟨uS HO_4⟩,⟨uK BK155⟩,⟨(vB HB)⟩⟩
    ·
     rw [if_neg c5] at H;have c5b0:=decide_eq_false c5;clear c5;obtain ⟨A4,c4,e4⟩:=Kd.S_slice HO_4.out;subst e4;have RD:=Kd.R_reads' (Kd.S_R HO_4.out);have HC4:=Zk RD.2.2;have HL4:=Zk RD.2.1;have HBr:=Zk HB.out;clear RD HO_4 HK1;unfold Qr.p2 at H
     split at H
     ·
      rename_i hlen;obtain ⟨F',hF,hr⟩:=Option.map_eq_some_iff.mp H;injection hr with hr1 hr2
      subst hr1 hr2;have HF:=Zk hF;have HLn:=Zk hlen;clear H hF hlen;generalize x4_1=xs at*
      obtain ⟨w1,e1⟩: ∃ w1,w1=wr:=⟨_,rfl⟩
      subst e1;have hmk:=Qkr (P:=Try.prog) 24 3 .i64 8 Try.underlying24 rfl (by decide) xs.length (by have:=HLn.out;omega);go_wp2_with fail;have R0:=Zk (show Kd.R (Kd.int .i64) 3 ((w1.alloc (.cells (madeCells #[.int .i64 0] xs.length) 3)).alloc (.cells #[.slice (some ⟨w1.heap.size,0,none⟩) xs.length xs.length] 26)) w1.heap.size (fun _=>True) (.slice (some ⟨w1.heap.size,0,none⟩) xs.length xs.length) (List.replicate xs.length 0) from Kd.R_alloc (Qr.made_R w1 w1.heap.size _ xs.length rfl (Nat.le_refl _) HLn.out) _);have K0:=Zk (show ((w1.alloc (.cells (madeCells #[.int .i64 0] xs.length) 3)).alloc (.cells #[.slice (some ⟨w1.heap.size,0,none⟩) xs.length xs.length] 26)).heap[w1.heap.size+1]? =some (.cells #[.slice (some ⟨w1.heap.size,0,none⟩) xs.length xs.length] 26 (0,0)) by rw [show w1.heap.size+1=(w1.alloc (.cells (madeCells #[.int .i64 0] xs.length) 3)).heap.size from (Array.size_push ..).symm];exact Qf1 _ _);have B0:=Zk (Qq (Qq (Below.refl w1.heap.size w1) (.cells (madeCells #[.int .i64 0] xs.length) 3)) (.cells #[.slice (some ⟨w1.heap.size,0,none⟩) xs.length xs.length] 26));have HFU:=Zk (Nat.le_refl xs.length)
      go_loopg [42] xs.length (fun kq v42 wl=> ∃ (x:Int) (F:List Int),v42= .int .i64 x∧Z0 (Qr.m0 xs kq x F=some F')∧Z0 (kq≤xs.length)∧Z0 (F.length=xs.length)∧Z0 (Kd.R (Kd.int .i64) 3 wl w1.heap.size (fun _=>True) (.slice (some ⟨w1.heap.size,0,none⟩) xs.length xs.length) F)∧Z0 (wl.heap[w1.heap.size+1]? =some (.cells #[.slice (some ⟨w1.heap.size,0,none⟩) xs.length xs.length] 26 (0,0)))∧Z0 (Below w1.heap.size w1 wl))
      case atStart=>exact ⟨0,_,rfl,HF,HFU,⟨List.length_replicate⟩,R0,K0,B0⟩
      case round=>
       clear R0 K0 B0 HF;obtain ⟨x,F,rfl,HA,HK1,HN,HR,K,B⟩:=hrel
       by_cases hx:x<(xs.length:Int)
       ·
        cases gk with
        |zero=>
         have h:=HA.out;rw [Qr.m0,if_pos hx] at h;cases h
        |succ k1=>
         have h:=HA.out;rw [Qr.m0,if_pos hx] at h
         split at h
         ·
          rename_i hx0;obtain ⟨F1,hm,h⟩:=Option.bind_eq_some_iff.mp h;have HA2:=Zk h;clear h HA;obtain ⟨xn,rfl⟩:=Int.eq_ofNat_of_zero_le hx0;have hm':=hm;clear hm;obtain ⟨ad,As,cs,eA,hcs,hls,hCs⟩:=Go.Proofs.Ytkgngggppcmpfaa.X.row_at (Kd.C_below HC4.out (Below.refl _ _)) xn (by omega);cases eA;have hs:=(B.out.cell (World.block_lt_of_cell? w1 _ hcs)).trans hcs;have HCs:=Zk hCs;have HLs:=Zk hls;have hxb:(xn:Int)<(xs.length:Int):=hx;have HCA:=Zk hcs;clear hCs hls hcs;rw [Int.toNat_natCast] at hm';generalize xs.getD xn [] =s at hm' hs HCs HLs HCA;have HM:=Zk hm';clear hm';go_wp2_with fail
          go_loopg [49] xs.length (fun kq v49 wm=> ∃ (y:Int) (G:List Int),v49= .int .i64 y∧Z0 (Qr.m1 xs xn s kq y G=some F1)∧Z0 (kq≤xs.length)∧Z0 (G.length=xs.length)∧Z0 (Kd.R (Kd.int .i64) 3 wm w1.heap.size (fun _=>True) (.slice (some ⟨w1.heap.size,0,none⟩) xs.length xs.length) G)∧Z0 (wm.heap[w1.heap.size+1]? =some (.cells #[.slice (some ⟨w1.heap.size,0,none⟩) xs.length xs.length] 26 (0,0)))∧Z0 (Below w1.heap.size w1 wm))
          case atStart=>exact ⟨0,F,rfl,HM,HFU,HN,HR,K,B⟩
          case round=>
           clear HM HR K B hs HN;obtain ⟨y,G,rfl,HA3,HK2,HN,HR,K,B⟩:=hrel
           by_cases hy:y<(xs.length:Int)
           ·
            cases gk with
            |zero=>
             have h:=HA3.out;rw [Qr.m1,if_pos hy] at h;cases h
            |succ k2=>
             have h:=HA3.out;rw [Qr.m1,if_pos hy] at h
             split at h
             ·
              rename_i hc;have HA4':=h;clear h HA3;obtain ⟨yn,rfl⟩:=Int.eq_ofNat_of_zero_le hc.1;have hs1:=hc.2.1;have ht1:=hc.2.2;rw [Int.toNat_natCast] at ht1;clear hc;obtain ⟨ad2,At,ct,eA,hct,hlt,hCt⟩:=Go.Proofs.Ytkgngggppcmpfaa.X.row_at HC4.out yn (by omega);cases eA;have ht:=(B.out.cell (World.block_lt_of_cell? w1 _ hct)).trans hct;obtain ⟨ads,eA,s0⟩:=Kd.at_int (Kd.C_below HCs.out B.out) 0 (by omega) (by omega);cases eA;obtain ⟨ads2,eA,s1⟩:=Kd.at_int (Kd.C_below HCs.out B.out) 1 (by omega) (by omega);cases eA;obtain ⟨adt,eA,t0⟩:=Kd.at_int (Kd.C_below hCt B.out) 0 (by omega) (by omega);cases eA;obtain ⟨adt2,eA,t1⟩:=Kd.at_int (Kd.C_below hCt B.out) 1 (by omega) (by omega);cases eA;clear hCt hlt hct;have s0z:=s0;rw [Int.toNat_zero,Addr.add_zero'] at s0z;have s1z:=s1;rw [show ads.add (Int.toNat 1)= { block:=ads.block,off:=ads.off+1 } by simp [Addr.add]] at s1z;have t0z:=t0;rw [Int.toNat_zero,Addr.add_zero'] at t0z;have t1z:=t1;rw [show adt.add (Int.toNat 1)= { block:=adt.block,off:=adt.off+1 } by simp [Addr.add]] at t1z;rw [Int.toNat_natCast] at HA4';generalize xs.getD yn [] =t at*
              have q0:(0:Int)<(s.length:Int):=by omega
              have q1:(1:Int)<(s.length:Int):=by omega
              have r0:(0:Int)<(t.length:Int):=by omega
              have r1:(1:Int)<(t.length:Int):=by omega
              by_cases d1:(xn:Int)=(yn:Int)
              ·
               have HA5:=Zk (show Qr.m1 xs xn s k2 (wrap64 ((yn:Int)+1)) G=some F1 by rw [if_neg (fun c=>c.1 d1)] at HA4';exact HA4');have b1:((xn:Int) !=(yn:Int))=false:=bne_eq_false_iff_eq.mpr d1;have b2:((xn:Int)==(yn:Int))=true:=beq_iff_eq.mpr d1;clear d1 HA4';go_wp2_with fail
               repeat (go_quiet (fail);try go_wp2)
               go_roundg k2
               case measure=>have:=HK2.out;omega
               case rel=>exact ⟨wrap64 ((yn:Int)+1),G,rfl,HA5,⟨by have:=HK2.out;omega⟩,HN,⟨uR HR⟩,⟨uK K⟩,⟨by repeat (first|(with_reducible first|exact B.out|apply Qq|apply Qw|apply Qbb)|exact B.out)⟩⟩
              ·
               have b1:((xn:Int) !=(yn:Int))=true:=bne_iff_ne.mpr d1;have b2:((xn:Int)==(yn:Int))=false:=beq_eq_false_iff_ne.mpr d1
               by_cases d2:rd s 0≤rd t 0
               ·
                have b3:decide (rd s 0≤rd t 0)=true:=decide_eq_true d2
                by_cases d3:rd t 1≤rd s 1
                ·
                 have b4:decide (rd t 1≤rd s 1)=true:=decide_eq_true d3;have HA5':=(show Qr.m1 xs xn s k2 (wrap64 ((yn:Int)+1)) (G.set xn (Go.bits .or .i64 (rd G xn) (shl .i64 1 (yn:Int))))=some F1 by rw [if_pos ⟨d1,d2,d3⟩] at HA4';exact HA4')
                 clear d1 d2 d3 HA4';have hxG:(xn:Int)<(G.length:Int):=by have:=HN.out;omega
                 obtain ⟨gf,cf2,e5,hgb,hgl,cells,hg⟩:=Kd.R_form HR.out (by omega);injection e5 with e51 hle e53
                 cases e51;obtain ⟨ad3,e6,hgx⟩:=Kd.at_int (Kd.R_reads' HR.out).2.2 (xn:Int) (by omega) hxG;cases e6;have hfz:=Qg hg xn;have zk:=Qb4 K.out 0;have hgz:wr.cell? ⟨w1.heap.size,xn,none⟩=some (.int .i64 (rd G xn)):=by
                  by_cases h0:xn=0
                  ·
                   subst h0;simpa [Addr.add] using hgx
                  ·
                   simpa [Addr.add,h0] using hgx
                 obtain ⟨ji,hji⟩: ∃ j_:Int,shl .i64 1 (yn:Int)=j_:=⟨_,rfl⟩
                 have hji_:(IntKind.i64.wrap (1*2 ^ min (yn:Int).toNat 64))=ji:=hji;have hjiu:(IntKind.i64.wrap (2 ^ min (yn:Int).toNat 64))=ji:=by have h_:=hji_;rw [Int.one_mul] at h_;exact h_
                 have hjin:(IntKind.i64.wrap (2 ^ min yn 64))=ji:=hjiu;rw [hji] at HA5';have HA5:=Zk HA5';clear HA5' hji hgx hgb hgl hle;go_wp2_with fail
                 go_region
                 all_goals
                  go_wp2_with fail
                  go_region
                  all_goals
                   go_wp2;go_roundg k2
                   case measure=>have:=HK2.out;omega
                   case rel=>exact ⟨wrap64 ((yn:Int)+1),G.set xn (Go.bits .or .i64 (rd G xn) ji),rfl,HA5,⟨by have:=HK2.out;omega⟩,⟨(List.length_set ..).trans HN.out⟩,⟨by (with_reducible repeat (first|apply Kd.R_alloc|apply Kd.R_drewN|apply Kd.R_drew));have h_:=(Kd.R_putg HR.out (xn:Int) (Go.bits .or .i64 (rd G xn) ji)).1;rwa [Int.toNat_natCast] at h_⟩,⟨by (with_reducible repeat (first|refine Qbp ?_ _|refine Qbj ?_|refine Qbk ?_ _));exact Qdf K.out (Nat.succ_ne_self _) _⟩,⟨by repeat (first|(with_reducible first|exact B.out|apply Qq|apply Qw|apply Qbb)|exact Q1 B.out (Nat.le_refl _)|exact B.out)⟩⟩
                ·
                 have b4:decide (rd t 1≤rd s 1)=false:=decide_eq_false d3;have HA5:=Zk (show Qr.m1 xs xn s k2 (wrap64 ((yn:Int)+1)) G=some F1 by rw [if_neg (fun c=>d3 c.2.2)] at HA4';exact HA4');clear d1 d2 d3 HA4';go_wp2_with fail
                 go_region
                 all_goals
                  go_wp2;go_roundg k2
                  case measure=>have:=HK2.out;omega
                  case rel=>exact ⟨wrap64 ((yn:Int)+1),G,rfl,HA5,⟨by have:=HK2.out;omega⟩,HN,⟨uR HR⟩,⟨uK K⟩,⟨by repeat (first|(with_reducible first|exact B.out|apply Qq|apply Qw|apply Qbb)|exact B.out)⟩⟩
               ·
                have b3:decide (rd s 0≤rd t 0)=false:=decide_eq_false d2;have HA5:=Zk (show Qr.m1 xs xn s k2 (wrap64 ((yn:Int)+1)) G=some F1 by rw [if_neg (fun c=>d2 c.2.1)] at HA4';exact HA4');clear d1 d2 HA4';go_wp2_with fail
                go_region
                all_goals
                 go_wp2;go_roundg k2
                 case measure=>have:=HK2.out;omega
                 case rel=>exact ⟨wrap64 ((yn:Int)+1),G,rfl,HA5,⟨by have:=HK2.out;omega⟩,HN,⟨uR HR⟩,⟨uK K⟩,⟨by repeat (first|(with_reducible first|exact B.out|apply Qq|apply Qw|apply Qbb)|exact B.out)⟩⟩
             ·
              cases h
           ·
            have h:=HA3.out;have e:G=F1:=by
             cases gk with
             |zero=>rw [Qr.m1,if_neg hy] at h;exact Option.some.inj h
             |succ k2=>rw [Qr.m1,if_neg hy] at h;exact Option.some.inj h
            subst e;clear h HA3;go_wp2;go_roundg k1
            case measure=>have:=HK1.out;omega
            case rel=>exact ⟨wrap64 ((xn:Int)+1),G,rfl,HA2,⟨by have:=HK1.out;omega⟩,HN,HR,K,B⟩
         ·
          cases h
       ·
        have h:=HA.out;have e:F=F':=by
         cases gk with
         |zero=>rw [Qr.m0,if_neg hx] at h;exact Option.some.inj h
         |succ k1=>rw [Qr.m0,if_neg hx] at h;exact Option.some.inj h
        subst e;clear h HA HFU;have BKe:=Zk (show wr.heap[gb155]? =some (.cells #[.slice none 0 0] 26 (0,0)) from Qd BK155.out B.out);have hcz:wr.cell? ⟨gb155,0,none⟩=some (.slice none 0 0):=(Qb4 BKe.out 0).trans rfl;have hfz:=Qg BKe.out 0;have zk:=(Qb4 K.out 0).trans rfl;go_wp2;refine bodyPost_ret (Qee rfl _ _ gb155 26 #[.slice (some ⟨w1.heap.size,0,none⟩) xs.length xs.length] (0,0) _ rfl (by (with_reducible repeat (first|refine Qbp ?_ _|refine Qbj ?_|refine Qbk ?_ _));refine Qfk (cs:= #[.slice none 0 0]) ?_ 0 _ rfl;(with_reducible repeat (first|refine Qbp ?_ _|refine Qbj ?_|refine Qbk ?_ _));exact BKe.out) Try.underlying26 rfl (by kernel_rfl)) rfl ?_;exact ⟨_,by first|rfl|(simp;done),by (with_reducible repeat (first|apply Kd.R_alloc|apply Kd.R_drewN|apply Kd.R_drew));exact Kd.R_mono (Kd.R_far (p:=⟨gb155,0,none⟩) (Kd.R_types (Kd.R_lower HR.out HBr.out.size) BKe.out (by decide)) (fun _ hk=>hk.2) _) (fun _ hk=>trivial),by (repeat (first|(with_reducible apply Qq)|(with_reducible apply Qw)|(with_reducible apply Qbb)));exact Q1 (HBr.out.trans (B.out.mono HBr.out.size)) GE155.out⟩
     ·
      cases H
 ·
  replace c3:=Bool.eq_false_iff.mpr c3;subst c3;rw [if_neg (show ¬ (false=true) by decide)] at H;simp only [Option.some.injEq,Prod.mk.injEq] at H;obtain ⟨rfl,rfl⟩:=H;go_enter Try.func136,Try.ntmps136;go_wp2_with (first|(refine bE (N:=2) (cs:= #[.slice none 0 0]) (t:=26) ?_;intro gb155 hg w12 hbox hb;have BK155:=Zk (hbox);have GW155:=Zk ((by rw [hg];exact (Qh (uB HB)):w.heap.size≤gb155));have GE155:=GW155;replace HB:=Zk (Qc (uB HB) hb);clear hb hbox hg)|(refine gA (some 13) Try.func95 #[.int .i64 a0, .int .i64 1, .int .i64 4] ?_;(with_reducible refine (Qcn.calls a0 1 4 false _ A2.out).mono ?_);rintro e w' ⟨rfl,⟨nd,rfl⟩⟩;refine ⟨_,rfl,?_⟩;(try (rw [Qes w12];generalize hq_:World.drewN w12 _=w12;have n0_:Z0 (w12.heap[gb155]? =some (.cells #[.slice none 0 0] 26 (0,0))):=⟨by rw [←hq_];exact (uK BK155)⟩;have n1_:Z0 (Below w.heap.size w w12):=⟨by rw [←hq_];exact (vB HB)⟩;clear BK155 HB hq_;have BK155:=n0_;have HB:=n1_;clear n0_ n1_));have hcz13_0:=bC BK155;have hfz13_0:=Qg BK155.out 0));refine bodyPost_ret (Qee rfl _ _ gb155 26 #[.slice none 0 0] (0,0) _ rfl bP Try.underlying26 rfl (by kernel_rfl)) rfl ?_;exact ⟨_,by first|rfl|(simp [Qe,Qf] <;>rfl)|(simp [*,Qe,Qf] <;>rfl),by first|exact Kd.R_nil _ _ _ _ _|exact Kd.N_nil _ _ _ _ _|exact Kd.V_nil _ _ _ _ _|exact Kd.Q_nil _ _ _ _ _|exact Kd.S_nil _ _ _ _ _,(vB HB)⟩
end Go.Proofs.Ytkgngggppcmpfaa.L
end
