/- Laws about the given program: the law FnNumbersToggled answers true for every input that its row lets in; no condition is added to the given statement. Contracts of the Go functions that it reaches, and the plain proof over lists. -/
import Derived.Test.YtkgngggppcmpfaaWFnNumbersToggled0
import Derived.Test.YtkgngggppcmpfaaKFnNumbersToggled0
section
namespace Go.Proofs.Ytkgngggppcmpfaa.L
open Go.RowKit Go.Proofs.YtkgngggppcmpfaaW.PrintWords Go.Proofs.YtkgngggppcmpfaaW.PrintLast Go.Proofs.YtkgngggppcmpfaaW.PrintMore Go.Proofs.Ytkgngggppcmpfaa.X
attribute [local go_sem] max2_int min2_int max_two min_two max_three min_three max_four min_four
set_option linter.unusedVariables false
set_option linter.unusedSimpArgs false
mutual
def impl_RowArrayTimes.j0 : Nat → List Int → Int → Int → Bool → List Int → Option (List Int × Bool)
 |0,_,_,_,_,_=>none
 |k+1,x1,x2,x3,x21,x163000=>if x21=true then (some (([] :List Int),false)) else ((slices_Clone_int_int.f x1).bind fun t165=>((impl_Poset_n.f x163000).bind fun t168=>((impl_numbered.f k t168).bind fun t169=>(if x3>0 then ((slices_Reverse_int_int.f k t169).bind fun t172=>(impl_RowArrayTimes.j1 k x2 x3 t165 t172 x163000)) else (impl_RowArrayTimes.j1 k x2 x3 t165 t169 x163000)))))
def impl_RowArrayTimes.j1 : Nat → Int → Int → List Int → List Int → List Int → Option (List Int × Bool)
 |0,_,_,_,_,_=>none
 |k+1,x2,x3,x10,x11,x163000=>impl_RowArrayTimes.l0 k x2 x10 x11 (mx x3 (wrap64 (-x3))) 0 x163000
def impl_RowArrayTimes.l0 : Nat → Int → List Int → List Int → Int → Int → List Int → Option (List Int × Bool)
 |0,_,_,_,_,_,_=>none
 |k+1,x2,x10,x11,x34,x35,x163000=>if x35<x34 then ((impl_Poset_turn.f k x163000 x10 x2 x11).bind fun t173=>(impl_RowArrayTimes.l0 k x2 t173 x11 x34 (wrap64 (x35+1)) x163000)) else (some (x10,true))
end
def impl_RowArrayTimes.f (k : Nat) (l0_0 : List Int) (l1 : List Int) (a2 : Int) (a3 : Int) : Option (List Int × Bool) := (impl_isArray.f k l0_0 l1 a2).bind fun t163 => (if t163 = true then ((impl_within.f a3 (-1000) 1000).bind fun t164 => (impl_RowArrayTimes.j0 k l1 a2 a3 (!t164) l0_0)) else (impl_RowArrayTimes.j0 k l1 a2 a3 true l0_0))
theorem impl_RowArrayTimes.mono_l : ∀ k, (∀ y0 y1 y2 y3 y4, LeO (impl_RowArrayTimes.j0 k y0 y1 y2 y3 y4) (impl_RowArrayTimes.j0 (k + 1) y0 y1 y2 y3 y4)) ∧ (∀ y0 y1 y2 y3 y4, LeO (impl_RowArrayTimes.j1 k y0 y1 y2 y3 y4) (impl_RowArrayTimes.j1 (k + 1) y0 y1 y2 y3 y4)) ∧ (∀ y0 y1 y2 y3 y4 y5, LeO (impl_RowArrayTimes.l0 k y0 y1 y2 y3 y4 y5) (impl_RowArrayTimes.l0 (k + 1) y0 y1 y2 y3 y4 y5))
 |0=>⟨fun _ _ _ _ _ r h=>by simp [impl_RowArrayTimes.j0] at h,fun _ _ _ _ _ r h=>by simp [impl_RowArrayTimes.j1] at h,fun _ _ _ _ _ _ r h=>by simp [impl_RowArrayTimes.l0] at h⟩
 |k+1=>by
  obtain ⟨ih0,ih1,ih2⟩:=impl_RowArrayTimes.mono_l k;refine ⟨?_,?_,?_⟩
  ·
   intro y0 y1 y2 y3 y4;unfold impl_RowArrayTimes.j0
   repeat' first
   |(with_reducible exact ih0 _ _ _ _ _)
   |(with_reducible exact ih1 _ _ _ _ _)
   |(with_reducible exact ih2 _ _ _ _ _ _)
   |(with_reducible exact impl_Poset_turn.mono _ _ _ _ _)
   |(with_reducible exact impl_isArray.mono _ _ _ _)
   |(with_reducible exact impl_numbered.mono _ _)
   |(with_reducible exact slices_Reverse_int_int.mono _ _)
   |(with_reducible exact LeO.refl _)
   |(with_reducible exact LeO.none _)
   |(with_reducible refine LeO.ite ?_ ?_)
   |(with_reducible refine LeO.bind ?_ (fun _=> ?_))
   |exact ih0 _ _ _ _ _
   |exact ih1 _ _ _ _ _
   |exact ih2 _ _ _ _ _ _
   |exact impl_Poset_turn.mono _ _ _ _ _
   |exact impl_isArray.mono _ _ _ _
   |exact impl_numbered.mono _ _
   |exact slices_Reverse_int_int.mono _ _
   |exact LeO.none _
   |refine LeO.ite ?_ ?_
   |refine LeO.bind ?_ (fun _=> ?_)
  ·
   intro y0 y1 y2 y3 y4;unfold impl_RowArrayTimes.j1
   repeat' first
   |(with_reducible exact ih0 _ _ _ _ _)
   |(with_reducible exact ih1 _ _ _ _ _)
   |(with_reducible exact ih2 _ _ _ _ _ _)
   |(with_reducible exact impl_Poset_turn.mono _ _ _ _ _)
   |(with_reducible exact impl_isArray.mono _ _ _ _)
   |(with_reducible exact impl_numbered.mono _ _)
   |(with_reducible exact slices_Reverse_int_int.mono _ _)
   |(with_reducible exact LeO.refl _)
   |(with_reducible exact LeO.none _)
   |(with_reducible refine LeO.ite ?_ ?_)
   |(with_reducible refine LeO.bind ?_ (fun _=> ?_))
   |exact ih0 _ _ _ _ _
   |exact ih1 _ _ _ _ _
   |exact ih2 _ _ _ _ _ _
   |exact impl_Poset_turn.mono _ _ _ _ _
   |exact impl_isArray.mono _ _ _ _
   |exact impl_numbered.mono _ _
   |exact slices_Reverse_int_int.mono _ _
   |exact LeO.none _
   |refine LeO.ite ?_ ?_
   |refine LeO.bind ?_ (fun _=> ?_)
  ·
   intro y0 y1 y2 y3 y4 y5;unfold impl_RowArrayTimes.l0
   repeat' first
   |(with_reducible exact ih0 _ _ _ _ _)
   |(with_reducible exact ih1 _ _ _ _ _)
   |(with_reducible exact ih2 _ _ _ _ _ _)
   |(with_reducible exact impl_Poset_turn.mono _ _ _ _ _)
   |(with_reducible exact impl_isArray.mono _ _ _ _)
   |(with_reducible exact impl_numbered.mono _ _)
   |(with_reducible exact slices_Reverse_int_int.mono _ _)
   |(with_reducible exact LeO.refl _)
   |(with_reducible exact LeO.none _)
   |(with_reducible refine LeO.ite ?_ ?_)
   |(with_reducible refine LeO.bind ?_ (fun _=> ?_))
   |exact ih0 _ _ _ _ _
   |exact ih1 _ _ _ _ _
   |exact ih2 _ _ _ _ _ _
   |exact impl_Poset_turn.mono _ _ _ _ _
   |exact impl_isArray.mono _ _ _ _
   |exact impl_numbered.mono _ _
   |exact slices_Reverse_int_int.mono _ _
   |exact LeO.none _
   |refine LeO.ite ?_ ?_
   |refine LeO.bind ?_ (fun _=> ?_)
theorem impl_RowArrayTimes.mono : ∀ a0 a1 a2 a3 k, LeO (impl_RowArrayTimes.f k a0 a1 a2 a3) (impl_RowArrayTimes.f (k + 1) a0 a1 a2 a3) := by
 intro a0 a1 a2 a3 k;obtain ⟨ih0,ih1,ih2⟩:=impl_RowArrayTimes.mono_l k;unfold impl_RowArrayTimes.f
 repeat' first
  |(with_reducible exact ih0 _ _ _ _ _)
  |(with_reducible exact ih1 _ _ _ _ _)
  |(with_reducible exact ih2 _ _ _ _ _ _)
  |(with_reducible exact impl_Poset_turn.mono _ _ _ _ _)
  |(with_reducible exact impl_isArray.mono _ _ _ _)
  |(with_reducible exact impl_numbered.mono _ _)
  |(with_reducible exact slices_Reverse_int_int.mono _ _)
  |(with_reducible exact LeO.refl _)
  |(with_reducible exact LeO.none _)
  |(with_reducible refine LeO.ite ?_ ?_)
  |(with_reducible refine LeO.bind ?_ (fun _=> ?_))
  |exact ih0 _ _ _ _ _
  |exact ih1 _ _ _ _ _
  |exact ih2 _ _ _ _ _ _
  |exact impl_Poset_turn.mono _ _ _ _ _
  |exact impl_isArray.mono _ _ _ _
  |exact impl_numbered.mono _ _
  |exact slices_Reverse_int_int.mono _ _
  |exact LeO.none _
  |refine LeO.ite ?_ ?_
  |refine LeO.bind ?_ (fun _=> ?_)
set_option maxHeartbeats 8000000 in
set_option maxRecDepth 100000 in
theorem impl_RowArrayTimes.calls (k : Nat) (A0_0 : Option Addr) (c0_0 : Nat) (l0_0 : List Int) (A1 : Option Addr) (c1 : Nat) (l1 : List Int) (a2 : Int) (a3 : Int) (r1 : List Int) (r2 : Bool) (w : World) (hr0_0 : Kd.C (Kd.int .i64) w A0_0 l0_0.length l0_0) (hc0_0 : l0_0.length ≤ c0_0) (hr1 : Kd.C (Kd.int .i64) w A1 l1.length l1) (hc1 : l1.length ≤ c1) (h : impl_RowArrayTimes.f k l0_0 l1 a2 a3 = some (r1, r2)) :
 Calls Try.prog 33 #[.agg #[.slice A0_0 l0_0.length c0_0], .slice A1 l1.length c1, .int .i64 a2, .int .i64 a3] w fun e w'=> ∃ v0_:Value,e= .returned (.tuple #[v0_, .bool r2])∧Kd.R (Kd.int .i64) 3 w' w.heap.size (fun _=>True) v0_ r1∧Below w.heap.size w w':=by
 have hu26:=Try.underlying26;have HR0_0:=Aside0.mk hr0_0;have HC0_0:=Aside0.mk hc0_0;clear hr0_0 hc0_0;have HR1:=Aside0.mk hr1;have HC1:=Aside0.mk hc1;clear hr1 hc1;have HB:=Aside0.mk (Below.refl w.heap.size w);have H:((impl_isArray.f k l0_0 l1 a2).bind fun t163=>(if t163=true then ((impl_within.f a3 (-1000) 1000).bind fun t164=>(impl_RowArrayTimes.j0 k l1 a2 a3 (!t164) l0_0)) else (impl_RowArrayTimes.j0 k l1 a2 a3 true l0_0)))=some (r1,r2):=h;clear h;have HC5:=Aside0.mk H;clear H;go_enter Try.func33,Try.ntmps33;go_upto_region 1 with (first|(refine bE (N:=4) (cs:= #[.slice A0_0 l0_0.length c0_0]) (t:=26) ?_;intro gb162 hg w6 hbox hb;have BK162:=Aside0.mk (hbox);have GW162:=Aside0.mk ((by rw [hg];exact (below_size (uB HB)):w.heap.size≤gb162));have GE162:=GW162;replace HB:=Aside0.mk (below_step (uB HB) hb);clear hb hbox hg))
 (try simp only [Act.put,List.setIfInBounds_toArray,List.set_cons_zero,List.set_cons_succ])
 go_cut [21] (fun v21 wc=> ∃ (kq:Nat) (x21_4:Bool),v21= .bool x21_4∧Aside0 (impl_RowArrayTimes.j0 kq l1 a2 a3 x21_4 l0_0=some (r1,r2))∧Aside0 (kq≤k)∧Aside0 (wc.heap[gb162]? =some (.cells #[(.slice A0_0 l0_0.length c0_0)] 26 (0,0)))∧Aside0 (Below w.heap.size w wc))
 case first=>
  have H:=HC5.out;clear HC5;obtain ⟨t163,A7,H⟩:=bs H;(try dsimp only at H)
  by_cases c8:t163=true
  ·
   subst c8;rw [if_pos rfl] at H;obtain ⟨t164,A9,H⟩:=bs H;(try dsimp only at H)
   have H':=Aside0.mk H;clear H;have hcz10_0:=bC BK162;have hfz10_0:=blk_frozen BK162.out 0;go_wp2_with (first|(refine gA (some 15) Try.func62 #[.agg #[.slice A0_0 l0_0.length c0_0], .slice A1 l1.length c1, .int .i64 a2] ?_;(with_reducible refine (impl_isArray.calls k _ _ l0_0 _ _ l1 a2 true _ (uD HR0_0 HB) HC0_0.out (uD HR1 HB) HC1.out A7.out).mono ?_);rintro e w11 ⟨rfl,hb⟩;refine ⟨_,rfl,?_⟩;replace BK162:=Aside0.mk (blk_below (uK BK162) hb);replace HB:=Aside0.mk (below_step (uB HB) hb);(try clear hb))|(go_at_call 81;(with_reducible refine (impl_within.calls a3 (-1000) 1000 t164 _ A9.out).mono ?_);rintro e w' ⟨rfl,⟨nd,rfl⟩⟩))
   go_meet
   case rel=>exact ⟨_,(!t164),(by first|rfl|(simp;done)|(simp [*];done)),H',⟨by first|omega|exact Nat.le_refl _⟩,⟨uK BK162⟩,⟨uB HB⟩⟩
  ·
   replace c8:=Bool.eq_false_iff.mpr c8;subst c8;rw [if_neg (show ¬ (false=true) by decide)] at H;have H':=Aside0.mk H;clear H;have hcz12_0:=bC BK162;have hfz12_0:=blk_frozen BK162.out 0;go_wp2_with (first|(refine gA (some 15) Try.func62 #[.agg #[.slice A0_0 l0_0.length c0_0], .slice A1 l1.length c1, .int .i64 a2] ?_;(with_reducible refine (impl_isArray.calls k _ _ l0_0 _ _ l1 a2 false _ (uD HR0_0 HB) HC0_0.out (uD HR1 HB) HC1.out A7.out).mono ?_);rintro e w13 ⟨rfl,hb⟩;refine ⟨_,rfl,?_⟩;replace BK162:=Aside0.mk (blk_below (uK BK162) hb);replace HB:=Aside0.mk (below_step (uB HB) hb);(try clear hb)))
   go_meet
   case rel=>exact ⟨_,(true),(by first|rfl|(simp;done)|(simp [*];done)),H',⟨by first|omega|exact Nat.le_refl _⟩,⟨uK BK162⟩,⟨uB HB⟩⟩
 case rest=>
  clear HC5
  try clear c1
  try clear p2
  try clear c3
  try clear c6
  try clear c8
  try clear hcz10_0
  try clear hcz12_0
  try clear hfz10_0
  try clear hfz12_0
  obtain ⟨kq,x21_4,rfl,HA,HJ4,BK162,HB⟩:=hcut;cases kq with
  |zero=>exact absurd HA.out (by simp [impl_RowArrayTimes.j0])
  |succ kj4=>
   have H:=HA.out;clear HA;simp only [impl_RowArrayTimes.j0] at H
   by_cases c14:x21_4=true
   ·
    subst c14;rw [if_pos rfl] at H;simp only [Option.some.injEq,Prod.mk.injEq] at H;obtain ⟨rfl,rfl⟩:=H;go_wp2
    go_ret2
    exact ⟨_,by first|rfl|(simp [errW_none,errW_some] <;>rfl)|(simp [*,errW_none,errW_some] <;>rfl),by first|exact Kd.R_nil _ _ _ _ _|exact Kd.N_nil _ _ _ _ _|exact Kd.V_nil _ _ _ _ _|exact Kd.Q_nil _ _ _ _ _|exact Kd.S_nil _ _ _ _ _,uB HB⟩
   ·
    replace c14:=Bool.eq_false_iff.mpr c14;subst c14;rw [if_neg (show ¬ (false=true) by decide)] at H;obtain ⟨t165,A15,H⟩:=bs H;(try dsimp only at H)
    obtain ⟨t168,A16,H⟩:=bs H;(try dsimp only at H)
    obtain ⟨t169,A17,H⟩:=bs H;(try dsimp only at H)
    have HC18:=Aside0.mk H;clear H
    try go_wp2
    replace BK162:=Aside0.mk (blk_drew BK162.out);replace HB:=Aside0.mk (below_drew1 HB.out);refine sU (n:=7) (S:=fun w'=>w'.cell? ⟨gb162,0,none⟩=some (.slice A0_0 l0_0.length c0_0)) (ds:= []) ((blk_cell BK162.out 0).trans rfl) (fun hHeld=> ?_);generalize wc.drew=w19 at BK162 HB hHeld ⊢;refine pV 0 22 ?_;refine tV 2 24 hHeld ?_;refine oV 1 (some 23) fun K hK=> ?_
    refine goes_ Try.func66 (by kernel_rfl) rfl #[.slice A1 l1.length c1] (by rfl) rfl rfl (by (try simp only [List.map_toArray,List.map_cons,List.map_nil]);first|done|rfl|(simp only [List.length_drop,List.length_take];rfl)) ?_
    with_reducible refine (slices_Clone_int_int.calls _ _ l1 t165 _ ?side1 ?side2 A15.out).mono ?_
    (case side1=>repeat (first|exact (Kd.C_below HR1.out HB.out)|(with_reducible refine Kd.C_alloc ?_ _)|(with_reducible refine Kd.C_drewN ?_ _)|(with_reducible refine Kd.C_drew ?_)))
    (case side2=>exact HC1.out)
    rintro e w20 ⟨v166,rfl,ho0,hb⟩;refine ⟨_,rfl,?_⟩;have HO167:=Aside0.mk (Kd.R_lower ho0 (below_size (uB HB)));replace BK162:=Aside0.mk (blk_below (uK BK162) hb);replace HB:=Aside0.mk (below_step (uB HB) hb)
    skip
    skip
    skip
    skip
    skip
    refine hK.out _ _ ((blk_cell BK162.out 0).trans rfl) (fun hHeld=> ?_);clear hK K;refine nU 23 ?_;refine oV 3 (some 25) fun K hK=> ?_
    refine goes_ Try.func65 (by kernel_rfl) rfl #[.agg #[.slice A0_0 l0_0.length c0_0]] (by rfl) rfl rfl (by (try simp only [List.map_toArray,List.map_cons,List.map_nil]);first|done|rfl|(simp only [List.length_drop,List.length_take];rfl)) ?_
    with_reducible refine (impl_Poset_n.calls _ _ l0_0 t168 _ ?side1 ?side2 A16.out).mono ?_
    (case side1=>repeat (first|exact (Kd.C_below HR0_0.out HB.out)|(with_reducible refine Kd.C_alloc ?_ _)|(with_reducible refine Kd.C_drewN ?_ _)|(with_reducible refine Kd.C_drew ?_)))
    (case side2=>exact HC0_0.out)
    rintro e w21 ⟨rfl,hb⟩;refine ⟨_,rfl,?_⟩;replace HO167:=Aside0.mk (Kd.R_below (uR HO167) hb);replace BK162:=Aside0.mk (blk_below (uK BK162) hb);replace HB:=Aside0.mk (below_step (uB HB) hb)
    skip
    skip
    skip
    skip
    refine hK.out _ _ ((blk_cell BK162.out 0).trans rfl) (fun hHeld=> ?_);clear hK K;refine nU 25 ?_;refine oV 4 (some 26) fun K hK=> ?_
    refine goes_ Try.func64 (by kernel_rfl) rfl #[.int .i64 t168] (by rfl) rfl rfl (by (try simp only [List.map_toArray,List.map_cons,List.map_nil]);first|done|rfl|(simp only [List.length_drop,List.length_take];rfl)) ?_
    with_reducible refine (impl_numbered.calls kj4 t168 t169 _ A17.out).mono ?_
    rintro e w22 ⟨v170,rfl,ho0,hb⟩;refine ⟨_,rfl,?_⟩;have HO171:=Aside0.mk (Kd.R_lower (Kd.R_new' ho0 (Kd.R_lt (uR HO167))) (below_size (uB HB)));replace HO167:=Aside0.mk (Kd.R_elder' (uR HO167) (Kd.R_base ho0) hb);replace BK162:=Aside0.mk (blk_below (uK BK162) hb);replace HB:=Aside0.mk (below_step (uB HB) hb)
    skip
    skip
    skip
    skip
    skip
    refine hK.out _ _ ((blk_cell BK162.out 0).trans rfl) (fun hHeld=> ?_);clear hK K;refine nU 26 ?_;refine pV 5 10 ?_;refine pV 6 11 ?_;refine done_ (by kernel_rfl) ?_
    go_upto_if 28 with (fail)
    go_cut [] (fun wc=> ∃ (kq:Nat) (x11_17:List Int),Aside0 (impl_RowArrayTimes.j1 kq a2 a3 t165 x11_17 l0_0=some (r1,r2))∧Aside0 (kq≤kj4)∧Aside0 (Kd.R (Kd.int .i64) 3 wc w.heap.size (fun k_=>some k_≠(v170:Value).ownBlock) v166 t165)∧Aside0 (Kd.R (Kd.int .i64) 3 wc w.heap.size (fun k_=>some k_≠(v166:Value).ownBlock) v170 x11_17)∧Aside0 (wc.heap[gb162]? =some (.cells #[(.slice A0_0 l0_0.length c0_0)] 26 (0,0)))∧Aside0 (Below w.heap.size w wc))
    case first=>
     have H:=HC18.out;clear HC18
     by_cases c23:a3>0
     ·
      rw [if_pos c23] at H;have c23b0:=decide_eq_true c23;clear c23
      (first|rw [c23b0] |(simp only [i64_w,i32_w];rw [c23b0])|skip)
      obtain ⟨t172,A24,H⟩:=bs H;(try dsimp only at H)
      have H':=Aside0.mk H;clear H;obtain ⟨Ao25,co25,eo25⟩:=Kd.R_slice HO171.out;subst eo25;go_wp2_with (first|(refine gA (some 30) Try.func93 #[.slice Ao25 t169.length co25] ?_;(with_reducible refine (slices_Reverse_int_int.calls kj4 (fun k_=>some k_=(.slice Ao25 t169.length co25:Value).ownBlock) (.slice Ao25 t169.length co25) t169 t172 w _ (uB HB) ?side2 A24.out).mono ?_);(case side2=>exact Kd.R_tight rfl HO171.out);rintro e w26 ⟨rfl,hy0,hb,hkp⟩;refine ⟨_,rfl,?_⟩;replace BK162:=Aside0.mk (blk_kept (uK BK162) hkp (fun hs_=>(fun e_=>(Kd.R_ne HO171.out BK162.out (by decide)) e_) hs_));replace HO167:=Aside0.mk (Kd.R_mono (ok':=fun k_=>some k_≠(.slice Ao25 t169.length co25:Value).ownBlock) (Kd.R_keptB (HO167.out) hkp (fun k_ hk_ hs_=>(hk_.2) hs_)) (fun k_ hk_=>hk_.1.2));replace HO171:=Aside0.mk (Kd.R_reok rfl hy0 (fun k_ e_=>HO171.out.1 k_ e_));replace HB:=Aside0.mk (hb);(try clear hb);(try clear hkp);(try clear hy0)))
      go_meet
      case rel=>exact ⟨_,(t172),H',⟨by have:=HJ4.out;first|omega|exact Nat.le_refl _⟩,⟨uR HO167⟩,⟨by (with_reducible repeat (first|apply Kd.R_alloc|apply Kd.R_drewN|apply Kd.R_drew));exact Kd.R_mono HO171.out (fun _ hk=>hk.2)⟩,⟨uK BK162⟩,⟨uB HB⟩⟩
     ·
      rw [if_neg c23] at H;have c23b0:=decide_eq_false c23;clear c23
      (first|rw [c23b0] |(simp only [i64_w,i32_w];rw [c23b0])|skip)
      have H':=Aside0.mk H;clear H;go_wp2
      go_meet
      case rel=>exact ⟨_,(t169),H',⟨by have:=HJ4.out;first|omega|exact Nat.le_refl _⟩,⟨by (with_reducible repeat (first|apply Kd.R_alloc|apply Kd.R_drewN|apply Kd.R_drew));exact Kd.R_mono HO167.out (fun _ hk=>hk.2)⟩,⟨by (with_reducible repeat (first|apply Kd.R_alloc|apply Kd.R_drewN|apply Kd.R_drew));exact Kd.R_mono HO171.out (fun _ hk=>hk.2)⟩,⟨uK BK162⟩,⟨uB HB⟩⟩
    case rest=>
     clear HC18
     try clear c1
     try clear c2
     try clear p2
     try clear c3
     try clear c6
     try clear c8
     try clear c9
     try clear c14
     try clear c23
     try clear c23b0
     try clear hcz10_0
     try clear hcz12_0
     try clear hfz10_0
     try clear hfz12_0
     try clear p2
     obtain ⟨kq,x11_17,HA,HJ17,HO_10,HO_11,BK162,HB⟩:=hcut;cases kq with
     |zero=>exact absurd HA.out (by simp [impl_RowArrayTimes.j1])
     |succ kj17=>
      have H:=HA.out;clear HA;simp only [impl_RowArrayTimes.j1] at H;obtain ⟨ji27,hji27⟩: ∃ j_:Int,(mx a3 (wrap64 (-a3)))=j_:=⟨_,rfl⟩
      replace H:(impl_RowArrayTimes.l0 kj17 a2 t165 x11_17 ji27 0 l0_0)=some (r1,r2):=by first|(rw [hji27] at H;exact H)|(simp only [hji27] at H ⊢;exact H)
      have hji27_:(if a3<(wrap64 (-a3)) then (wrap64 (-a3)) else a3)=ji27:=hji27;have H':=Aside0.mk H;clear H;go_wp2
      go_loopg [35] kj17 (fun kq v35 w'=> ∃ (x10_3:List Int) (x35_3:Int),v35= .int .i64 x35_3∧Aside0 (impl_RowArrayTimes.l0 kq a2 x10_3 x11_17 ji27 x35_3 l0_0=some (r1,r2))∧Aside0 (kq≤kj17)∧Aside0 (Kd.R (Kd.int .i64) 3 w' w.heap.size (fun k_=>some k_≠(v170:Value).ownBlock) v166 x10_3)∧Aside0 (Kd.R (Kd.int .i64) 3 w' w.heap.size (fun k_=>some k_≠(v166:Value).ownBlock) v170 x11_17)∧Aside0 (w'.heap[gb162]? =some (.cells #[(.slice A0_0 l0_0.length c0_0)] 26 (0,0)))∧Aside0 (Below w.heap.size w w'))
      case atStart=>exact ⟨(t165),(0),(by first|rfl|(simp;done)|(simp [*];done)),H',⟨Nat.le_refl _⟩,⟨uR HO_10⟩,⟨uR HO_11⟩,⟨uK BK162⟩,⟨uB HB⟩⟩
      case round=>
       clear H'
       try clear c1
       try clear c2
       try clear p2
       try clear c3
       try clear c6
       try clear p6
       try clear c8
       try clear c9
       try clear c14
       try clear c23
       try clear c23b0
       try clear hcz10_0
       try clear hcz12_0
       try clear hfz10_0
       try clear hfz12_0
       try clear p2
       obtain ⟨x10_3,x35_3,rfl,HA,HK3,HO_10,HO_11,BK162,HB⟩:=hrel;cases gk with
       |zero=>exact absurd HA.out (by simp [impl_RowArrayTimes.l0])
       |succ k3=>
        have H:=HA.out;clear HA;simp only [impl_RowArrayTimes.l0] at H
        by_cases c28:x35_3<ji27
        ·
         rw [if_pos c28] at H;have c28b0:=decide_eq_true c28;clear c28;obtain ⟨t173,A29,H⟩:=bs H;(try dsimp only at H)
         have H':=Aside0.mk H;clear H;have hcz30_0:=bC BK162;have hfz30_0:=blk_frozen BK162.out 0;obtain ⟨Ao31,co31,eo31⟩:=Kd.R_slice HO_10.out;subst eo31;obtain ⟨Ao32,co32,eo32⟩:=Kd.R_slice HO_11.out;subst eo32;go_wp2_with (first|(refine gA (some 41) Try.func68 #[.agg #[.slice A0_0 l0_0.length c0_0], .slice Ao31 x10_3.length co31, .int .i64 a2, .slice Ao32 x11_17.length co32] ?_;(with_reducible refine (impl_Poset_turn.calls k3 _ _ l0_0 (fun k_=>some k_=(.slice Ao31 x10_3.length co31:Value).ownBlock) (.slice Ao31 x10_3.length co31) x10_3 a2 _ _ x11_17 t173 w _ (uB HB) ?side2 HC0_0.out ?side4 ?side5 ?side6 A29.out).mono ?_);(case side2=>exact Kd.C_kept_came (Kd.heap_int .i64) HR0_0.out (uB HB) (fun k_ hs_=>(fun e_=>Kd.R_base HO_10.out k_ e_.symm) hs_));(case side4=>exact Kd.R_tight rfl HO_10.out);(case side5=>exact Kd.C_kept_own (HO_11.out) (fun k_ hk_ hs_=>(hk_) hs_));(case side6=>exact (Kd.R_reads' HO_11.out).2.1);rintro e w33 ⟨rfl,hy0,hb,hkp⟩;refine ⟨_,rfl,?_⟩;replace HO_11:=Aside0.mk (Kd.R_mono (ok':=fun k_=>some k_≠(.slice Ao31 x10_3.length co31:Value).ownBlock) (Kd.R_keptB (HO_11.out) hkp (fun k_ hk_ hs_=>(hk_) hs_)) (fun k_ hk_=>hk_.1));replace BK162:=Aside0.mk (blk_kept (uK BK162) hkp (fun hs_=>(fun e_=>(Kd.R_ne HO_10.out BK162.out (by decide)) e_) hs_));replace HO_10:=Aside0.mk (Kd.R_reok rfl hy0 (fun k_ e_=>HO_10.out.1 k_ e_));replace HB:=Aside0.mk (hb);(try clear hb);(try clear hkp);(try clear hy0)));go_roundg k3
         case measure=>have:=HJ4.out;have:=HJ17.out;have:=HK3.out;omega
         case rel=>exact ⟨(t173),(wrap64 (x35_3+1)),(by first|rfl|(simp;done)|(simp [*];done)),H',⟨by have:=HJ4.out;have:=HJ17.out;have:=HK3.out;omega⟩,⟨uR HO_10⟩,⟨uR HO_11⟩,⟨uK BK162⟩,⟨uB HB⟩⟩
        ·
         rw [if_neg c28] at H;have c28b0:=decide_eq_false c28;clear c28;simp only [Option.some.injEq,Prod.mk.injEq] at H;obtain ⟨rfl,rfl⟩:=H;go_wp2
         go_ret2
         exact ⟨_,by first|rfl|(simp [errW_none,errW_some] <;>rfl)|(simp only [←hji27];first|rfl|(simp [errW_none,errW_some] <;>rfl))|(simp [*,errW_none,errW_some] <;>rfl),by (with_reducible repeat (first|apply Kd.R_alloc|apply Kd.R_drewN|apply Kd.R_drew));exact Kd.R_mono HO_10.out (fun _ hk=>trivial),uB HB⟩
def impl_RowArray.f (k : Nat) (l0_0 : List Int) (l1 : List Int) (a2 : Int) : Option (List Int × Bool) := (impl_RowArrayTimes.f k l0_0 l1 a2 1).bind fun bt175 => (some (bt175.1, bt175.2))
theorem impl_RowArray.mono : ∀ a0 a1 a2 k, LeO (impl_RowArray.f k a0 a1 a2) (impl_RowArray.f (k + 1) a0 a1 a2) := by
 intro a0 a1 a2 k;unfold impl_RowArray.f
 repeat' first
  |(with_reducible exact impl_RowArrayTimes.mono _ _ _ _ _)
  |(with_reducible exact LeO.refl _)
  |(with_reducible exact LeO.none _)
  |(with_reducible refine LeO.ite ?_ ?_)
  |(with_reducible refine LeO.bind ?_ (fun _=> ?_))
  |exact impl_RowArrayTimes.mono _ _ _ _ _
  |exact LeO.none _
  |refine LeO.ite ?_ ?_
  |refine LeO.bind ?_ (fun _=> ?_)
set_option maxHeartbeats 8000000 in
set_option maxRecDepth 100000 in
theorem impl_RowArray.calls (k : Nat) (A0_0 : Option Addr) (c0_0 : Nat) (l0_0 : List Int) (A1 : Option Addr) (c1 : Nat) (l1 : List Int) (a2 : Int) (r1 : List Int) (r2 : Bool) (w : World) (hr0_0 : Kd.C (Kd.int .i64) w A0_0 l0_0.length l0_0) (hc0_0 : l0_0.length ≤ c0_0) (hr1 : Kd.C (Kd.int .i64) w A1 l1.length l1) (hc1 : l1.length ≤ c1) (h : impl_RowArray.f k l0_0 l1 a2 = some (r1, r2)) :
 Calls Try.prog 11 #[.agg #[.slice A0_0 l0_0.length c0_0], .slice A1 l1.length c1, .int .i64 a2] w fun e w'=> ∃ v0_:Value,e= .returned (.tuple #[v0_, .bool r2])∧Kd.R (Kd.int .i64) 3 w' w.heap.size (fun _=>True) v0_ r1∧Below w.heap.size w w':=by
 have hu26:=Try.underlying26;have HR0_0:=Aside0.mk hr0_0;have HC0_0:=Aside0.mk hc0_0;clear hr0_0 hc0_0;have HR1:=Aside0.mk hr1;have HC1:=Aside0.mk hc1;clear hr1 hc1;have HB:=Aside0.mk (Below.refl w.heap.size w);have H:((impl_RowArrayTimes.f k l0_0 l1 a2 1).bind fun bt175=>(some (bt175.1,bt175.2)))=some (r1,r2):=h;clear h;obtain ⟨⟨t175,t178⟩,A4,H⟩:=bs H;(try dsimp only at H)
 simp only [Option.some.injEq,Prod.mk.injEq] at H;obtain ⟨rfl,rfl⟩:=H;go_enter Try.func11,Try.ntmps11;go_wp2_with (first|(refine bE (N:=3) (cs:= #[.slice A0_0 l0_0.length c0_0]) (t:=26) ?_;intro gb174 hg w5 hbox hb;have BK174:=Aside0.mk (hbox);have GW174:=Aside0.mk ((by rw [hg];exact (below_size (uB HB)):w.heap.size≤gb174));have GE174:=GW174;replace HB:=Aside0.mk (below_step (uB HB) hb);clear hb hbox hg;have hcz6_0:=bC BK174;have hfz6_0:=blk_frozen BK174.out 0)|(refine gA (some 11) Try.func33 #[.agg #[.slice A0_0 l0_0.length c0_0], .slice A1 l1.length c1, .int .i64 a2, .int .i64 1] ?_;(with_reducible refine (impl_RowArrayTimes.calls k _ _ l0_0 _ _ l1 a2 1 t175 t178 _ (uD HR0_0 HB) HC0_0.out (uD HR1 HB) HC1.out A4.out).mono ?_);rintro e w7 ⟨v176,rfl,ho0,hb⟩;refine ⟨_,rfl,?_⟩;have HO177:=Aside0.mk (Kd.R_lower ho0 (below_size (uB HB)));replace BK174:=Aside0.mk (blk_below (uK BK174) hb);replace HB:=Aside0.mk (below_step (uB HB) hb);(try clear hb ho0)))
 go_ret2
 exact ⟨_,by first|rfl|(simp [errW_none,errW_some] <;>rfl)|(simp [*,errW_none,errW_some] <;>rfl),uR HO177,uB HB⟩
end Go.Proofs.Ytkgngggppcmpfaa.L
end
section
namespace Go.Proofs.Ytkgngggppcmpfaa.L
open Go.RowKit Go.Proofs.YtkgngggppcmpfaaW.PrintWords Go.Proofs.YtkgngggppcmpfaaW.PrintLast Go.Proofs.YtkgngggppcmpfaaW.PrintMore
attribute [local go_sem] max2_int min2_int max_two min_two max_three min_three max_four min_four
set_option linter.unusedVariables false
set_option linter.unusedSimpArgs false
def laws_nSame.l0 : Nat → List Int → List Int → Int → Int → Option (Bool)
 |0,_,_,_,_=>none
 |k+1,x0,x1,x12,x13=>if x13<x12 then (if 0≤x13 then (if x13<(x0.length:Int) then (if x13<(x1.length:Int) then (if (rd x0 x13)=(rd x1 x13) then (laws_nSame.l0 k x0 x1 x12 (wrap64 (x13+1))) else (some false)) else (none)) else (none)) else (none)) else (some true)
def laws_nSame.f (k : Nat) (l0 : List Int) (l1 : List Int) : Option (Bool) := if (l0.length : Int) = (l1.length : Int) then (laws_nSame.l0 k l0 l1 (l0.length : Int) 0) else (some false)
theorem laws_nSame.mono_l : ∀ k, (∀ y0 y1 y2 y3, LeO (laws_nSame.l0 k y0 y1 y2 y3) (laws_nSame.l0 (k + 1) y0 y1 y2 y3))
 |0=>fun _ _ _ _ r h=>by simp [laws_nSame.l0] at h
 |k+1=>by
  have ih0:=laws_nSame.mono_l k
  ·
   intro y0 y1 y2 y3;unfold laws_nSame.l0
   repeat' first
   |(with_reducible exact ih0 _ _ _ _)
   |(with_reducible exact LeO.refl _)
   |(with_reducible exact LeO.none _)
   |(with_reducible refine LeO.ite ?_ ?_)
   |(with_reducible refine LeO.bind ?_ (fun _=> ?_))
   |exact ih0 _ _ _ _
   |exact LeO.none _
   |refine LeO.ite ?_ ?_
   |refine LeO.bind ?_ (fun _=> ?_)
theorem laws_nSame.mono : ∀ a0 a1 k, LeO (laws_nSame.f k a0 a1) (laws_nSame.f (k + 1) a0 a1) := by
 intro a0 a1 k;have ih0:=laws_nSame.mono_l k;unfold laws_nSame.f
 repeat' first
  |(with_reducible exact ih0 _ _ _ _)
  |(with_reducible exact LeO.refl _)
  |(with_reducible exact LeO.none _)
  |(with_reducible refine LeO.ite ?_ ?_)
  |(with_reducible refine LeO.bind ?_ (fun _=> ?_))
  |exact ih0 _ _ _ _
  |exact LeO.none _
  |refine LeO.ite ?_ ?_
  |refine LeO.bind ?_ (fun _=> ?_)
set_option maxHeartbeats 8000000 in
set_option maxRecDepth 100000 in
theorem laws_nSame.calls (k : Nat) (A0 : Option Addr) (c0 : Nat) (l0 : List Int) (A1 : Option Addr) (c1 : Nat) (l1 : List Int) (r : Bool) (w : World) (hr0 : Kd.C (Kd.int .i64) w A0 l0.length l0) (hc0 : l0.length ≤ c0) (hr1 : Kd.C (Kd.int .i64) w A1 l1.length l1) (hc1 : l1.length ≤ c1) (h : laws_nSame.f k l0 l1 = some r) :
 Calls Try.prog 12 #[.slice A0 l0.length c0, .slice A1 l1.length c1] w fun e w'=>e= .returned (.bool r)∧Drawn0 w w':=by
 have HR0:=Aside0.mk hr0;have HC0:=Aside0.mk hc0;clear hr0 hc0;have HR1:=Aside0.mk hr1;have HC1:=Aside0.mk hc1;clear hr1 hc1;have H:(if (l0.length:Int)=(l1.length:Int) then (laws_nSame.l0 k l0 l1 (l0.length:Int) 0) else (some false))=some r:=h;clear h
 by_cases c3:(l0.length:Int)=(l1.length:Int)
 ·
  rw [if_pos c3] at H;have c3b0:((l0.length:Int)==(l1.length:Int))=true:=beq_iff_eq.mpr c3;have c3b1:((l0.length:Int) !=(l1.length:Int))=false:=bne_eq_false_iff_eq.mpr c3;have c3b2:(l0.length==l1.length)=true:=by first|simpa using c3|(simp at c3 ⊢;omega)
  clear c3;have H':=Aside0.mk H;clear H;go_enter Try.func12,Try.ntmps12;go_wp2
  repeat (go_quiet (fail);try go_wp2)
  go_loopg [13] k (fun kq v13 w'=> ∃ (x13_1:Int),v13= .int .i64 x13_1∧Aside0 (laws_nSame.l0 kq l0 l1 (l0.length:Int) x13_1=some r)∧Aside0 (kq≤k)∧Drawn0 w w')
  case atStart=>exact ⟨(0),(by first|rfl|(simp;done)|(simp [*];done)),H',⟨Nat.le_refl _⟩,by repeat (first|exact Drawn0.refl _|apply Drawn0.step)⟩
  case round=>
   clear H'
   try clear c1
   try clear p2
   try clear c3
   try clear c3b0
   try clear c3b1
   try clear c3b2
   obtain ⟨x13_1,rfl,HA,HK1,⟨m1,rfl⟩⟩:=hrel;cases gk with
   |zero=>exact absurd HA.out (by simp [laws_nSame.l0])
   |succ k1=>
    have H:=HA.out;clear HA;simp only [laws_nSame.l0] at H
    by_cases c4:x13_1<(l0.length:Int)
    ·
     rw [if_pos c4] at H;have c4b0:=decide_eq_true c4;clear c4
     by_cases c5:0≤x13_1
     ·
      rw [if_pos c5] at H;have c5b0:=decide_eq_true c5;clear c5
      by_cases c6:x13_1<(l0.length:Int)
      ·
       rw [if_pos c6] at H;have c6b0:=decide_eq_true c6;clear c6
       by_cases c7:x13_1<(l1.length:Int)
       ·
        rw [if_pos c7] at H;have c7b0:=decide_eq_true c7;clear c7
        by_cases c8:(rd l0 x13_1)=(rd l1 x13_1)
        ·
         rw [if_pos c8] at H;have c8b0:((rd l0 x13_1)==(rd l1 x13_1))=true:=beq_iff_eq.mpr c8;have c8b1:((rd l0 x13_1) !=(rd l1 x13_1))=false:=bne_eq_false_iff_eq.mpr c8;clear c8;have H':=Aside0.mk H;clear H;have p179:0≤(x13_1:Int):=of_decide_eq_true (by first|(with_reducible assumption)|assumption);have q179:x13_1<(l0.length:Int):=of_decide_eq_true (by first|(with_reducible assumption)|assumption);obtain ⟨ad179,e179,hx179_0⟩:=Kd.at_int HR0.out x13_1 p179 q179;cases e179;replace p179:=eq_true p179;replace q179:=eq_true q179;have p180:0≤(x13_1:Int):=of_decide_eq_true (by first|(with_reducible assumption)|assumption);have q180:x13_1<(l1.length:Int):=of_decide_eq_true (by first|(with_reducible assumption)|assumption);obtain ⟨ad180,e180,hx180_0⟩:=Kd.at_int HR1.out x13_1 p180 q180;cases e180;replace p180:=eq_true p180;replace q180:=eq_true q180;go_wp2
         repeat (go_quiet (fail);try go_wp2)
         go_roundg k1
         case measure=>have:=HK1.out;omega
         case rel=>exact ⟨(wrap64 (x13_1+1)),(by first|rfl|(simp;done)|(simp [*];done)),H',⟨by have:=HK1.out;omega⟩,by repeat (first|exact Drawn0.refl _|apply Drawn0.step)⟩
        ·
         rw [if_neg c8] at H;have c8b0:((rd l0 x13_1)==(rd l1 x13_1))=false:=beq_eq_false_iff_ne.mpr c8;have c8b1:((rd l0 x13_1) !=(rd l1 x13_1))=true:=bne_iff_ne.mpr c8;obtain rfl:=Option.some.inj H;have p179:0≤(x13_1:Int):=of_decide_eq_true (by first|(with_reducible assumption)|assumption);have q179:x13_1<(l0.length:Int):=of_decide_eq_true (by first|(with_reducible assumption)|assumption);obtain ⟨ad179,e179,hx179_0⟩:=Kd.at_int HR0.out x13_1 p179 q179;cases e179;replace p179:=eq_true p179;replace q179:=eq_true q179;have p180:0≤(x13_1:Int):=of_decide_eq_true (by first|(with_reducible assumption)|assumption);have q180:x13_1<(l1.length:Int):=of_decide_eq_true (by first|(with_reducible assumption)|assumption);obtain ⟨ad180,e180,hx180_0⟩:=Kd.at_int HR1.out x13_1 p180 q180;cases e180;replace p180:=eq_true p180;replace q180:=eq_true q180;go_wp2
         repeat (go_quiet (fail);try go_wp2)
         go_ret
         exact ⟨by first|rfl|(simp;done)|(simp [*];done),by repeat (first|exact Drawn0.refl _|apply Drawn0.step)⟩
       ·
        rw [if_neg c7] at H;exact absurd H (by simp)
      ·
       rw [if_neg c6] at H;exact absurd H (by simp)
     ·
      rw [if_neg c5] at H;exact absurd H (by simp)
    ·
     rw [if_neg c4] at H;have c4b0:=decide_eq_false c4;clear c4;obtain rfl:=Option.some.inj H;go_wp2
     repeat (go_quiet (fail);try go_wp2)
     go_ret
     exact ⟨by first|rfl|(simp;done)|(simp [*];done),by repeat (first|exact Drawn0.refl _|apply Drawn0.step)⟩
 ·
  rw [if_neg c3] at H;have c3b0:((l0.length:Int)==(l1.length:Int))=false:=beq_eq_false_iff_ne.mpr c3;have c3b1:((l0.length:Int) !=(l1.length:Int))=true:=bne_iff_ne.mpr c3;have c3b2:(l0.length==l1.length)=false:=by first|simpa using c3|(simp at c3 ⊢;omega)
  obtain rfl:=Option.some.inj H;go_enter Try.func12,Try.ntmps12;go_wp2
  repeat (go_quiet (fail);try go_wp2)
  go_ret
  exact ⟨by first|rfl|(simp;done)|(simp [*];done),by repeat (first|exact Drawn0.refl _|apply Drawn0.step)⟩
end Go.Proofs.Ytkgngggppcmpfaa.L
end
section
namespace Go.Proofs.Ytkgngggppcmpfaa.L
open Go.RowKit Go.Proofs.YtkgngggppcmpfaaW.PrintWords Go.Proofs.YtkgngggppcmpfaaW.PrintLast Go.Proofs.YtkgngggppcmpfaaW.PrintMore Go.Proofs.Ytkgngggppcmpfaa.X
attribute [local go_sem] max2_int min2_int max_two min_two max_three min_three max_four min_four
set_option linter.unusedVariables false
set_option linter.unusedSimpArgs false
def impl_IsArray.f (k : Nat) (l0_0 : List Int) (l1 : List Int) (a2 : Int) : Option (Bool × Bool) := (impl_isHigh.f k l0_0 a2).bind fun t182 => (if t182 = true then ((impl_Poset_n.f l0_0).bind fun t183 => (if (l1.length : Int) = t183 then ((impl_Poset_areLabels.f k l0_0 l1 a2 0).bind fun t184 => (some (t184, true))) else (some (false, false)))) else (some (false, false)))
theorem impl_IsArray.mono : ∀ a0 a1 a2 k, LeO (impl_IsArray.f k a0 a1 a2) (impl_IsArray.f (k + 1) a0 a1 a2) := by
 intro a0 a1 a2 k;unfold impl_IsArray.f
 repeat' first
  |(with_reducible exact impl_Poset_areLabels.mono _ _ _ _ _)
  |(with_reducible exact impl_isHigh.mono _ _ _)
  |(with_reducible exact LeO.refl _)
  |(with_reducible exact LeO.none _)
  |(with_reducible refine LeO.ite ?_ ?_)
  |(with_reducible refine LeO.bind ?_ (fun _=> ?_))
  |exact impl_Poset_areLabels.mono _ _ _ _ _
  |exact impl_isHigh.mono _ _ _
  |exact LeO.none _
  |refine LeO.ite ?_ ?_
  |refine LeO.bind ?_ (fun _=> ?_)
set_option maxHeartbeats 8000000 in
set_option maxRecDepth 100000 in
theorem impl_IsArray.calls (k : Nat) (A0_0 : Option Addr) (c0_0 : Nat) (l0_0 : List Int) (A1 : Option Addr) (c1 : Nat) (l1 : List Int) (a2 : Int) (r1 : Bool) (r2 : Bool) (w : World) (hr0_0 : Kd.C (Kd.int .i64) w A0_0 l0_0.length l0_0) (hc0_0 : l0_0.length ≤ c0_0) (hr1 : Kd.C (Kd.int .i64) w A1 l1.length l1) (hc1 : l1.length ≤ c1) (h : impl_IsArray.f k l0_0 l1 a2 = some (r1, r2)) :
 Calls Try.prog 17 #[.agg #[.slice A0_0 l0_0.length c0_0], .slice A1 l1.length c1, .int .i64 a2] w fun e w'=>e= .returned (.tuple #[.bool r1, .bool r2])∧Below w.heap.size w w':=by
 have hu26:=Try.underlying26;have HR0_0:=Aside0.mk hr0_0;have HC0_0:=Aside0.mk hc0_0;clear hr0_0 hc0_0;have HR1:=Aside0.mk hr1;have HC1:=Aside0.mk hc1;clear hr1 hc1;have HB:=Aside0.mk (Below.refl w.heap.size w);have H:((impl_isHigh.f k l0_0 a2).bind fun t182=>(if t182=true then ((impl_Poset_n.f l0_0).bind fun t183=>(if (l1.length:Int)=t183 then ((impl_Poset_areLabels.f k l0_0 l1 a2 0).bind fun t184=>(some (t184,true))) else (some (false,false)))) else (some (false,false))))=some (r1,r2):=h;clear h;obtain ⟨t182,A4,H⟩:=bs H;(try dsimp only at H)
 by_cases c5:t182=true
 ·
  subst c5;rw [if_pos rfl] at H;obtain ⟨t183,A6,H⟩:=bs H;(try dsimp only at H)
  by_cases c7:(l1.length:Int)=t183
  ·
   rw [if_pos c7] at H;have c7b0:((l1.length:Int)==t183)=true:=beq_iff_eq.mpr c7;have c7b1:((l1.length:Int) !=t183)=false:=bne_eq_false_iff_eq.mpr c7;clear c7;obtain ⟨t184,A8,H⟩:=bs H;(try dsimp only at H)
   simp only [Option.some.injEq,Prod.mk.injEq] at H;obtain ⟨rfl,rfl⟩:=H;go_enter Try.func17,Try.ntmps17;go_wp2_with (first|((with_reducible refine gate_dst (N:=3) rfl ?_);(try (refine gate_guard (by rfl) ?_;dsimp only));refine bE (N:=3) (cs:= #[.slice A0_0 l0_0.length c0_0]) (t:=26) ?_;intro gb181 hg w9 hbox hb;have BK181:=Aside0.mk (hbox);have GW181:=Aside0.mk ((by rw [hg];exact (below_size (uB HB)):w.heap.size≤gb181));have GE181:=GW181;replace HB:=Aside0.mk (below_step (uB HB) hb);clear hb hbox hg;have hcz10_0:=bC BK181;have hfz10_0:=blk_frozen BK181.out 0)|(refine gA (some 10) Try.func77 #[.agg #[.slice A0_0 l0_0.length c0_0], .int .i64 a2] ?_;(with_reducible refine (impl_isHigh.calls k _ _ l0_0 a2 true _ (uD HR0_0 HB) HC0_0.out A4.out).mono ?_);rintro e w11 ⟨rfl,hb⟩;refine ⟨_,rfl,?_⟩;replace BK181:=Aside0.mk (blk_below (uK BK181) hb);replace HB:=Aside0.mk (below_step (uB HB) hb);(try clear hb);have hcz12_0:=bC BK181;have hfz12_0:=blk_frozen BK181.out 0)|(go_at_call 65;(with_reducible refine (impl_Poset_n.calls _ _ l0_0 t183 _ (uD HR0_0 HB) HC0_0.out A6.out).mono ?_);rintro e w13 ⟨rfl,hb⟩;replace BK181:=Aside0.mk (blk_below (uK BK181) hb);replace HB:=Aside0.mk (below_step (uB HB) hb);(try clear hb);have hcz14_0:=bC BK181;have hfz14_0:=blk_frozen BK181.out 0)|(refine gA (some 22) Try.func78 #[.agg #[.slice A0_0 l0_0.length c0_0], .slice A1 l1.length c1, .int .i64 a2, .int .i64 0] ?_;(with_reducible refine (impl_Poset_areLabels.calls k _ _ l0_0 _ _ l1 a2 0 t184 _ (uD HR0_0 HB) HC0_0.out (uD HR1 HB) HC1.out A8.out).mono ?_);rintro e w15 ⟨rfl,hb⟩;refine ⟨_,rfl,?_⟩;replace BK181:=Aside0.mk (blk_below (uK BK181) hb);replace HB:=Aside0.mk (below_step (uB HB) hb);(try clear hb)))
   go_ret2
   exact ⟨by first|rfl|(simp [errW_none,errW_some] <;>rfl)|(simp [*,errW_none,errW_some] <;>rfl),uB HB⟩
  ·
   rw [if_neg c7] at H;have c7b0:((l1.length:Int)==t183)=false:=beq_eq_false_iff_ne.mpr c7;have c7b1:((l1.length:Int) !=t183)=true:=bne_iff_ne.mpr c7;simp only [Option.some.injEq,Prod.mk.injEq] at H;obtain ⟨rfl,rfl⟩:=H;go_enter Try.func17,Try.ntmps17;go_wp2_with (first|((with_reducible refine gate_dst (N:=3) rfl ?_);(try (refine gate_guard (by rfl) ?_;dsimp only));refine bE (N:=3) (cs:= #[.slice A0_0 l0_0.length c0_0]) (t:=26) ?_;intro gb181 hg w16 hbox hb;have BK181:=Aside0.mk (hbox);have GW181:=Aside0.mk ((by rw [hg];exact (below_size (uB HB)):w.heap.size≤gb181));have GE181:=GW181;replace HB:=Aside0.mk (below_step (uB HB) hb);clear hb hbox hg;have hcz17_0:=bC BK181;have hfz17_0:=blk_frozen BK181.out 0)|(refine gA (some 10) Try.func77 #[.agg #[.slice A0_0 l0_0.length c0_0], .int .i64 a2] ?_;(with_reducible refine (impl_isHigh.calls k _ _ l0_0 a2 true _ (uD HR0_0 HB) HC0_0.out A4.out).mono ?_);rintro e w18 ⟨rfl,hb⟩;refine ⟨_,rfl,?_⟩;replace BK181:=Aside0.mk (blk_below (uK BK181) hb);replace HB:=Aside0.mk (below_step (uB HB) hb);(try clear hb);have hcz19_0:=bC BK181;have hfz19_0:=blk_frozen BK181.out 0)|(go_at_call 65;(with_reducible refine (impl_Poset_n.calls _ _ l0_0 t183 _ (uD HR0_0 HB) HC0_0.out A6.out).mono ?_);rintro e w20 ⟨rfl,hb⟩;replace BK181:=Aside0.mk (blk_below (uK BK181) hb);replace HB:=Aside0.mk (below_step (uB HB) hb);(try clear hb)))
   go_ret2
   exact ⟨by first|rfl|(simp [errW_none,errW_some] <;>rfl)|(simp [*,errW_none,errW_some] <;>rfl),uB HB⟩
 ·
  replace c5:=Bool.eq_false_iff.mpr c5;subst c5;rw [if_neg (show ¬ (false=true) by decide)] at H;simp only [Option.some.injEq,Prod.mk.injEq] at H;obtain ⟨rfl,rfl⟩:=H;go_enter Try.func17,Try.ntmps17;go_wp2_with (first|((with_reducible refine gate_dst (N:=3) rfl ?_);(try (refine gate_guard (by rfl) ?_;dsimp only));refine bE (N:=3) (cs:= #[.slice A0_0 l0_0.length c0_0]) (t:=26) ?_;intro gb181 hg w21 hbox hb;have BK181:=Aside0.mk (hbox);have GW181:=Aside0.mk ((by rw [hg];exact (below_size (uB HB)):w.heap.size≤gb181));have GE181:=GW181;replace HB:=Aside0.mk (below_step (uB HB) hb);clear hb hbox hg;have hcz22_0:=bC BK181;have hfz22_0:=blk_frozen BK181.out 0)|(refine gA (some 10) Try.func77 #[.agg #[.slice A0_0 l0_0.length c0_0], .int .i64 a2] ?_;(with_reducible refine (impl_isHigh.calls k _ _ l0_0 a2 false _ (uD HR0_0 HB) HC0_0.out A4.out).mono ?_);rintro e w23 ⟨rfl,hb⟩;refine ⟨_,rfl,?_⟩;replace BK181:=Aside0.mk (blk_below (uK BK181) hb);replace HB:=Aside0.mk (below_step (uB HB) hb);(try clear hb)))
  go_ret2
  exact ⟨by first|rfl|(simp [errW_none,errW_some] <;>rfl)|(simp [*,errW_none,errW_some] <;>rfl),uB HB⟩
def impl_RowArrayBack.f (k : Nat) (l0_0 : List Int) (l1 : List Int) (a2 : Int) : Option (List Int × Bool) := (impl_RowArrayTimes.f k l0_0 l1 a2 (-1)).bind fun bt186 => (some (bt186.1, bt186.2))
theorem impl_RowArrayBack.mono : ∀ a0 a1 a2 k, LeO (impl_RowArrayBack.f k a0 a1 a2) (impl_RowArrayBack.f (k + 1) a0 a1 a2) := by
 intro a0 a1 a2 k;unfold impl_RowArrayBack.f
 repeat' first
  |(with_reducible exact impl_RowArrayTimes.mono _ _ _ _ _)
  |(with_reducible exact LeO.refl _)
  |(with_reducible exact LeO.none _)
  |(with_reducible refine LeO.ite ?_ ?_)
  |(with_reducible refine LeO.bind ?_ (fun _=> ?_))
  |exact impl_RowArrayTimes.mono _ _ _ _ _
  |exact LeO.none _
  |refine LeO.ite ?_ ?_
  |refine LeO.bind ?_ (fun _=> ?_)
set_option maxHeartbeats 8000000 in
set_option maxRecDepth 100000 in
theorem impl_RowArrayBack.calls (k : Nat) (A0_0 : Option Addr) (c0_0 : Nat) (l0_0 : List Int) (A1 : Option Addr) (c1 : Nat) (l1 : List Int) (a2 : Int) (r1 : List Int) (r2 : Bool) (w : World) (hr0_0 : Kd.C (Kd.int .i64) w A0_0 l0_0.length l0_0) (hc0_0 : l0_0.length ≤ c0_0) (hr1 : Kd.C (Kd.int .i64) w A1 l1.length l1) (hc1 : l1.length ≤ c1) (h : impl_RowArrayBack.f k l0_0 l1 a2 = some (r1, r2)) :
 Calls Try.prog 18 #[.agg #[.slice A0_0 l0_0.length c0_0], .slice A1 l1.length c1, .int .i64 a2] w fun e w'=> ∃ v0_:Value,e= .returned (.tuple #[v0_, .bool r2])∧Kd.R (Kd.int .i64) 3 w' w.heap.size (fun _=>True) v0_ r1∧Below w.heap.size w w':=by
 have hu26:=Try.underlying26;have HR0_0:=Aside0.mk hr0_0;have HC0_0:=Aside0.mk hc0_0;clear hr0_0 hc0_0;have HR1:=Aside0.mk hr1;have HC1:=Aside0.mk hc1;clear hr1 hc1;have HB:=Aside0.mk (Below.refl w.heap.size w);have H:((impl_RowArrayTimes.f k l0_0 l1 a2 (-1)).bind fun bt186=>(some (bt186.1,bt186.2)))=some (r1,r2):=h;clear h;obtain ⟨⟨t186,t189⟩,A4,H⟩:=bs H;(try dsimp only at H)
 simp only [Option.some.injEq,Prod.mk.injEq] at H;obtain ⟨rfl,rfl⟩:=H;go_enter Try.func18,Try.ntmps18;go_wp2_with (first|(refine bE (N:=3) (cs:= #[.slice A0_0 l0_0.length c0_0]) (t:=26) ?_;intro gb185 hg w5 hbox hb;have BK185:=Aside0.mk (hbox);have GW185:=Aside0.mk ((by rw [hg];exact (below_size (uB HB)):w.heap.size≤gb185));have GE185:=GW185;replace HB:=Aside0.mk (below_step (uB HB) hb);clear hb hbox hg;have hcz6_0:=bC BK185;have hfz6_0:=blk_frozen BK185.out 0)|(refine gA (some 11) Try.func33 #[.agg #[.slice A0_0 l0_0.length c0_0], .slice A1 l1.length c1, .int .i64 a2, .int .i64 (-1)] ?_;(with_reducible refine (impl_RowArrayTimes.calls k _ _ l0_0 _ _ l1 a2 (-1) t186 t189 _ (uD HR0_0 HB) HC0_0.out (uD HR1 HB) HC1.out A4.out).mono ?_);rintro e w7 ⟨v187,rfl,ho0,hb⟩;refine ⟨_,rfl,?_⟩;have HO188:=Aside0.mk (Kd.R_lower ho0 (below_size (uB HB)));replace BK185:=Aside0.mk (blk_below (uK BK185) hb);replace HB:=Aside0.mk (below_step (uB HB) hb);(try clear hb ho0)))
 go_ret2
 exact ⟨_,by first|rfl|(simp [errW_none,errW_some] <;>rfl)|(simp [*,errW_none,errW_some] <;>rfl),uR HO188,uB HB⟩
def IsS67 (w0 W : World) (g : Nat) (f0 : List Int) (f1 : Int) (f2 : Int) : Prop := ∃ A0 c0, W.heap[g]? = some (.cells #[.slice A0 f0.length c0, .int .i64 f1, .int .u64 f2] 67 (0, 0)) ∧ w0.heap.size ≤ g ∧ Kd.C (Kd.int .u8) w0 A0 f0.length f0
theorem IsS67.grown {w0 W : World} {g : Nat} {f0 : List Int} {f1 : Int} {f2 : Int} {W1 : World} {row : Option Nat} (h : IsS67 w0 W g f0 f1 f2) (hw : W.grownBy W1 row) (hne : some g ≠ row) : IsS67 w0 W1 g f0 f1 f2 := by
 obtain ⟨A0,c0,hb,hg,hr0⟩:=h;exact ⟨A0,c0,blk_grown hb hw hne,hg,hr0⟩
theorem IsS67.own_neN {w0 W : World} {g : Nat} {f0 : List Int} {f1 : Int} {f2 : Int} {α : Type} {d : Kd α} {e : Nat} {base : Nat} {ok : Nat → Prop} {v : Value} {xs : List α} (h : IsS67 w0 W g f0 f1 f2) (ho : Kd.N d e W base ok v xs) (ht : e ≠ 67) : some g ≠ v.ownBlock := by
 obtain ⟨A0,c0,hb,hg,hr0⟩:=h;exact Kd.N_ne ho hb ht
theorem IsS67.fresh {w0 W : World} {g : Nat} {f0 : List Int} {f1 : Int} {f2 : Int} (h : IsS67 w0 W g f0 f1 f2) : ∀ k, W.heap.size ≤ k → k ≠ g := by
 obtain ⟨A0,c0,hb,hg,hr0⟩:=h;exact Kd.freshB hb
theorem IsS67.kept {w0 W : World} {g : Nat} {f0 : List Int} {f1 : Int} {f2 : Int} {W1 : World} {S : Nat → Prop} (h : IsS67 w0 W g f0 f1 f2) (hk : Kept W W1 S) (hne : ¬ S g) : IsS67 w0 W1 g f0 f1 f2 := by
 obtain ⟨A0,c0,hb,hg,hr0⟩:=h;exact ⟨A0,c0,blk_kept hb hk hne,hg,hr0⟩
theorem IsS67.below {w0 W : World} {g : Nat} {f0 : List Int} {f1 : Int} {f2 : Int} {W1 : World} (h : IsS67 w0 W g f0 f1 f2) (hw : Below W.heap.size W W1) : IsS67 w0 W1 g f0 f1 f2 := h.grown (grown_of_below hw none) (by simp)
theorem IsS67.u {w0 W : World} {g : Nat} {f0 : List Int} {f1 : Int} {f2 : Int} {W1 : World} (h : Aside0 (IsS67 w0 W g f0 f1 f2)) [l : Go.Proofs.Ytkgngggppcmpfaa.X.Ltr W W1] : IsS67 w0 W1 g f0 f1 f2 := IsS67.below h.out l.out
theorem IsS67.alloc {w0 W : World} {g : Nat} {f0 : List Int} {f1 : Int} {f2 : Int} (h : IsS67 w0 W g f0 f1 f2) (o : Obj) : IsS67 w0 (W.alloc o) g f0 f1 f2 := h.below (below_alloc (Below.refl _ _) o)
theorem IsS67.drewN {w0 W : World} {g : Nat} {f0 : List Int} {f1 : Int} {f2 : Int} (h : IsS67 w0 W g f0 f1 f2) (m : Nat) : IsS67 w0 (W.drewN m) g f0 f1 f2 := h
theorem IsS67.drew {w0 W : World} {g : Nat} {f0 : List Int} {f1 : Int} {f2 : Int} (h : IsS67 w0 W g f0 f1 f2) : IsS67 w0 W.drew g f0 f1 f2 := h
theorem IsS67.at_ {w0 W : World} {g : Nat} {f0 : List Int} {f1 : Int} {f2 : Int} {w' : World} {m : Nat} (hq : W.drewN m = w') (h : IsS67 w0 W g f0 f1 f2) : IsS67 w0 w' g f0 f1 f2 := by subst hq; exact IsS67.drewN h m
theorem IsS67.apart {w0 W : World} {g : Nat} {f0 : List Int} {f1 : Int} {f2 : Int} {α : Type} {d : Kd α} {e : Nat} {base : Nat} {ok : Nat → Prop} {v : Value} {xs : List α} (h : IsS67 w0 W g f0 f1 f2) (ho : d.R e W base ok v xs) (ht : ∀ q, q ∈ e :: d.E → q ≠ 67) : d.R e W base (fun k => ok k ∧ k ≠ g) v xs := by
 obtain ⟨A0,c0,hb,hg,hr0⟩:=h;exact Kd.R_types ho hb ht
theorem IsS67.own_ne {w0 W : World} {g : Nat} {f0 : List Int} {f1 : Int} {f2 : Int} {α : Type} {d : Kd α} {e : Nat} {base : Nat} {ok : Nat → Prop} {v : Value} {xs : List α} (h : IsS67 w0 W g f0 f1 f2) (ho : d.R e W base ok v xs) (ht : e ≠ 67) : some g ≠ v.ownBlock := by
 obtain ⟨A0,c0,hb,hg,hr0⟩:=h;exact Kd.R_ne ho hb ht
theorem IsS67.apartQ {w0 W : World} {g : Nat} {f0 : List Int} {f1 : Int} {f2 : Int} {α : Type} {d : Kd α} {e : Nat} {base : Nat} {ok : Nat → Prop} {v : Value} {xs : List α} (h : IsS67 w0 W g f0 f1 f2) (ho : d.Q e W base ok v xs) (ht : ∀ q, q ∈ e :: d.E → q ≠ 67) : d.Q e W base (fun k => ok k ∧ k ≠ g) v xs := by
 obtain ⟨A0,c0,hb,hg,hr0⟩:=h;exact Kd.Q_types ho hb ht
theorem IsS67.own_neQ {w0 W : World} {g : Nat} {f0 : List Int} {f1 : Int} {f2 : Int} {α : Type} {d : Kd α} {e : Nat} {base : Nat} {ok : Nat → Prop} {v : Value} {xs : List α} (h : IsS67 w0 W g f0 f1 f2) (ho : d.Q e W base ok v xs) (ht : e ≠ 67) : some g ≠ v.ownBlock := by
 obtain ⟨A0,c0,hb,hg,hr0⟩:=h;exact Kd.Q_ne ho hb ht
theorem IsS67.apartS {w0 W : World} {g : Nat} {f0 : List Int} {f1 : Int} {f2 : Int} {α : Type} {d : Kd α} {e : Nat} {base : Nat} {ok : Nat → Prop} {v : Value} {xs : List α} (h : IsS67 w0 W g f0 f1 f2) (ho : d.S e W base ok v xs) (ht : ∀ q, q ∈ e :: d.E → q ≠ 67) : d.S e W base (fun k => ok k ∧ k ≠ g) v xs := by
 obtain ⟨A0,c0,hb,hg,hr0⟩:=h;exact Kd.S_types ho hb ht
theorem IsS67.own_neS {w0 W : World} {g : Nat} {f0 : List Int} {f1 : Int} {f2 : Int} {α : Type} {d : Kd α} {e : Nat} {base : Nat} {ok : Nat → Prop} {v : Value} {xs : List α} (h : IsS67 w0 W g f0 f1 f2) (ho : d.S e W base ok v xs) (ht : e ≠ 67) : some g ≠ v.ownBlock := by
 obtain ⟨A0,c0,hb,hg,hr0⟩:=h;exact Kd.S_ne ho hb ht
theorem IsS67.lt {w0 W : World} {g : Nat} {f0 : List Int} {f1 : Int} {f2 : Int} (h : IsS67 w0 W g f0 f1 f2) : g < W.heap.size := by
 obtain ⟨A0,c0,hb,hg,hr0⟩:=h;exact blk_lt hb
theorem IsS67.ge {w0 W : World} {g : Nat} {f0 : List Int} {f1 : Int} {f2 : Int} (h : IsS67 w0 W g f0 f1 f2) : w0.heap.size ≤ g := by
 obtain ⟨A0,c0,hb,hg,hr0⟩:=h;exact hg
theorem IsS67.ne_blk {w0 W : World} {g : Nat} {f0 : List Int} {f1 : Int} {f2 : Int} {a : Nat} {cs : Array Value} {t : TypeId} {fr : Nat × Nat} (h : IsS67 w0 W g f0 f1 f2) (hb2 : W.heap[a]? = some (.cells cs t fr)) (ht : t ≠ 67) : g ≠ a := by
 obtain ⟨A0,c0,hb,hg,hr0⟩:=h;rintro rfl;rw [hb] at hb2;injection hb2 with hb2
 injection hb2 with _ ht2
 exact ht ht2.symm
theorem IsS67.far {w0 W : World} {g : Nat} {f0 : List Int} {f1 : Int} {f2 : Int} {p : Addr} (h : IsS67 w0 W g f0 f1 f2) (hne : g ≠ p.block) (u : Value) : IsS67 w0 (W.setCell p u) g f0 f1 f2 := by
 obtain ⟨A0,c0,hb,hg,hr0⟩:=h;exact ⟨A0,c0,blk_far hb hne u,hg,hr0⟩
theorem cellS67_0 {W : World} {g : Nat} {A0 : Option Addr} {c0 : Nat} {f0 : List Int} {f1 : Int} {f2 : Int} (h : W.heap[g]? = some (.cells #[.slice A0 f0.length c0, .int .i64 f1, .int .u64 f2] 67 (0, 0))) : W.cell? ⟨g, 0, none⟩ = some (.slice A0 f0.length c0) := (blk_cell h 0).trans rfl
theorem cellS67_1 {W : World} {g : Nat} {A0 : Option Addr} {c0 : Nat} {f0 : List Int} {f1 : Int} {f2 : Int} (h : W.heap[g]? = some (.cells #[.slice A0 f0.length c0, .int .i64 f1, .int .u64 f2] 67 (0, 0))) : W.cell? ⟨g, 1, none⟩ = some (.int .i64 f1) := (blk_cell h 1).trans rfl
theorem IsS67.set_1 {w0 W : World} {g : Nat} {f0 : List Int} {f1 : Int} {f2 : Int} (h : IsS67 w0 W g f0 f1 f2) (x : Int) : IsS67 w0 (W.setCell ⟨g, 1, none⟩ (.int .i64 x)) g f0 x f2 := by
 obtain ⟨A0,c0,hb,hg,hr0⟩:=h;exact ⟨A0,c0,by simpa using blk_set hb 1 (.int .i64 x),hg,hr0⟩
theorem cellS67_2 {W : World} {g : Nat} {A0 : Option Addr} {c0 : Nat} {f0 : List Int} {f1 : Int} {f2 : Int} (h : W.heap[g]? = some (.cells #[.slice A0 f0.length c0, .int .i64 f1, .int .u64 f2] 67 (0, 0))) : W.cell? ⟨g, 2, none⟩ = some (.int .u64 f2) := (blk_cell h 2).trans rfl
theorem IsS67.set_2 {w0 W : World} {g : Nat} {f0 : List Int} {f1 : Int} {f2 : Int} (h : IsS67 w0 W g f0 f1 f2) (x : Int) : IsS67 w0 (W.setCell ⟨g, 2, none⟩ (.int .u64 x)) g f0 f1 x := by
 obtain ⟨A0,c0,hb,hg,hr0⟩:=h;exact ⟨A0,c0,by simpa using blk_set hb 2 (.int .u64 x),hg,hr0⟩
theorem IsS67.new (w0 W : World) (A0 : Option Addr) (c0 : Nat) (f0 : List Int) (f1 : Int) (f2 : Int) (hB : Below w0.heap.size w0 W) (hr0 : Kd.C (Kd.int .u8) w0 A0 f0.length f0) : IsS67 w0 (W.alloc (.cells #[.slice A0 f0.length c0, .int .i64 f1, .int .u64 f2] 67)) W.heap.size f0 f1 f2 := ⟨A0, c0, by simpa using heap_alloc_new W _, hB.size, hr0⟩
def spec_l1Cur_next.f (s0_0 : List Int) (s0_1 : Int) (s0_2 : Int) : Option (Int × Int × Int) := if s0_1 < (s0_0.length : Int) then (if 0 ≤ s0_1 then (if (wrap64 (s0_1 + 1)) ≤ (s0_0.length : Int) then (some (wrap64 (rd s0_0 s0_1), wrap64 (s0_1 + 1), IntKind.u64.wrap ((IntKind.u64.wrap ((IntKind.u64.wrap (s0_2 * 6364136223846793005)) + (IntKind.u64.wrap (wrap64 (rd s0_0 s0_1))))) + 1442695040888963407))) else (some (wrap64 (Go.bits .and .u64 ((IntKind.u64.wrap ((IntKind.u64.wrap ((IntKind.u64.wrap (s0_2 * 6364136223846793005)) + (IntKind.u64.wrap (wrap64 (rd s0_0 s0_1))))) + 1442695040888963407)) / 1099511627776) 255), wrap64 (s0_1 + 1), IntKind.u64.wrap ((IntKind.u64.wrap ((IntKind.u64.wrap (s0_2 * 6364136223846793005)) + (IntKind.u64.wrap (wrap64 (rd s0_0 s0_1))))) + 1442695040888963407)))) else (none)) else (if (wrap64 (s0_1 + 1)) ≤ (s0_0.length : Int) then (some (0, wrap64 (s0_1 + 1), IntKind.u64.wrap ((IntKind.u64.wrap ((IntKind.u64.wrap (s0_2 * 6364136223846793005)) + 0)) + 1442695040888963407))) else (some (wrap64 (Go.bits .and .u64 ((IntKind.u64.wrap ((IntKind.u64.wrap ((IntKind.u64.wrap (s0_2 * 6364136223846793005)) + 0)) + 1442695040888963407)) / 1099511627776) 255), wrap64 (s0_1 + 1), IntKind.u64.wrap ((IntKind.u64.wrap ((IntKind.u64.wrap (s0_2 * 6364136223846793005)) + 0)) + 1442695040888963407))))
set_option maxHeartbeats 8000000 in
set_option maxRecDepth 100000 in
theorem spec_l1Cur_next.calls (g : Nat) (s0_0 : List Int) (s0_1 : Int) (s0_2 : Int) (r1 : Int) (r2 : Int) (r3 : Int) (w0 w : World) (hI : IsS67 w0 w g s0_0 s0_1 s0_2) (hB : Below w0.heap.size w0 w) (h : spec_l1Cur_next.f s0_0 s0_1 s0_2 = some (r1, r2, r3)) :
 Calls Try.prog 114 #[.pointer (some ⟨g,0,none⟩)] w fun e w'=>e= .returned (.int .i64 r1)∧IsS67 w0 w' g s0_0 r2 r3∧Below w0.heap.size w0 w'∧KeepBut w w' g none:=by
 have HI0:=Aside0.mk hI;have HK:=Aside0.mk (KeepBut.refl w g none);have HL:=Aside0.mk hB.size;clear hI;have HW0:=Aside0.mk hB.size;have HB:=Aside0.mk hB;clear hB;have H:(if s0_1<(s0_0.length:Int) then (if 0≤s0_1 then (if (wrap64 (s0_1+1))≤(s0_0.length:Int) then (some (wrap64 (rd s0_0 s0_1),wrap64 (s0_1+1),IntKind.u64.wrap ((IntKind.u64.wrap ((IntKind.u64.wrap (s0_2*6364136223846793005))+(IntKind.u64.wrap (wrap64 (rd s0_0 s0_1)))))+1442695040888963407))) else (some (wrap64 (Go.bits .and .u64 ((IntKind.u64.wrap ((IntKind.u64.wrap ((IntKind.u64.wrap (s0_2*6364136223846793005))+(IntKind.u64.wrap (wrap64 (rd s0_0 s0_1)))))+1442695040888963407)) / 1099511627776) 255),wrap64 (s0_1+1),IntKind.u64.wrap ((IntKind.u64.wrap ((IntKind.u64.wrap (s0_2*6364136223846793005))+(IntKind.u64.wrap (wrap64 (rd s0_0 s0_1)))))+1442695040888963407)))) else (none)) else (if (wrap64 (s0_1+1))≤(s0_0.length:Int) then (some (0,wrap64 (s0_1+1),IntKind.u64.wrap ((IntKind.u64.wrap ((IntKind.u64.wrap (s0_2*6364136223846793005))+0))+1442695040888963407))) else (some (wrap64 (Go.bits .and .u64 ((IntKind.u64.wrap ((IntKind.u64.wrap ((IntKind.u64.wrap (s0_2*6364136223846793005))+0))+1442695040888963407)) / 1099511627776) 255),wrap64 (s0_1+1),IntKind.u64.wrap ((IntKind.u64.wrap ((IntKind.u64.wrap (s0_2*6364136223846793005))+0))+1442695040888963407)))))=some (r1,r2,r3):=h;clear h
 by_cases c2:s0_1<(s0_0.length:Int)
 ·
  rw [if_pos c2] at H;have c2b0:=decide_eq_true c2;clear c2
  by_cases c3:0≤s0_1
  ·
   rw [if_pos c3] at H;have c3b0:=decide_eq_true c3;clear c3
   by_cases c4:(wrap64 (s0_1+1))≤(s0_0.length:Int)
   ·
    rw [if_pos c4] at H;have c4b0:=decide_eq_true c4;clear c4;simp only [Option.some.injEq,Prod.mk.injEq] at H;obtain ⟨rfl,rfl,rfl⟩:=H;obtain ⟨ASz5_0,cSz5_0,HGz5,hgz5,HSz5_0⟩:=HI0.out;have hcz5_0:=cellS67_0 HGz5;have hcz5_1:=cellS67_1 HGz5;have hcz5_2:=cellS67_2 HGz5;have hfz5_1:=blk_frozen HGz5 1;have hfz5_2:=blk_frozen HGz5 2;clear HGz5 hgz5;have p190:0≤(s0_1:Int):=of_decide_eq_true (by first|(with_reducible assumption)|assumption);have q190:s0_1<(s0_0.length:Int):=of_decide_eq_true (by first|(with_reducible assumption)|assumption);obtain ⟨ad190,e190,hx190_0⟩:=Kd.at_int HSz5_0 s0_1 p190 q190;cases e190;replace hx190_0:=pw_cell_below HB.out hx190_0;replace p190:=eq_true p190;replace q190:=eq_true q190;go_enter Try.func114,Try.ntmps114;go_wp2
    repeat (go_quiet (fail);try go_wp2)
    go_ret
    (try simp only [Int.add_zero])
    exact ⟨by first|rfl|(simp [errW_none,errW_some] <;>rfl)|(simp [*,errW_none,errW_some] <;>rfl),by repeat (first|(with_reducible first|exact HI0.out|apply IsS67.alloc|apply IsS67.drewN|apply IsS67.drew|apply IsS67.set_1|apply IsS67.set_2)|exact HI0.out),by repeat (first|(with_reducible first|exact HB.out|apply below_alloc|apply pw_below_drewN|apply below_drew1|refine below_set ?_ (IsS67.ge HI0.out))|exact HB.out),by repeat (first|(with_reducible first|exact HK.out|apply KeepBut.set_|apply keep_drewN|apply keep_drew|apply keep_alloc)|exact HK.out)⟩
   ·
    rw [if_neg c4] at H;have c4b0:=decide_eq_false c4;clear c4;simp only [Option.some.injEq,Prod.mk.injEq] at H;obtain ⟨rfl,rfl,rfl⟩:=H;obtain ⟨ASz6_0,cSz6_0,HGz6,hgz6,HSz6_0⟩:=HI0.out;have hcz6_0:=cellS67_0 HGz6;have hcz6_1:=cellS67_1 HGz6;have hcz6_2:=cellS67_2 HGz6;have hfz6_1:=blk_frozen HGz6 1;have hfz6_2:=blk_frozen HGz6 2;clear HGz6 hgz6;have p190:0≤(s0_1:Int):=of_decide_eq_true (by first|(with_reducible assumption)|assumption);have q190:s0_1<(s0_0.length:Int):=of_decide_eq_true (by first|(with_reducible assumption)|assumption);obtain ⟨ad190,e190,hx190_0⟩:=Kd.at_int HSz6_0 s0_1 p190 q190;cases e190;replace hx190_0:=pw_cell_below HB.out hx190_0;replace p190:=eq_true p190;replace q190:=eq_true q190;go_enter Try.func114,Try.ntmps114;go_wp2
    repeat (go_quiet (fail);try go_wp2)
    go_ret
    (try simp only [Int.add_zero])
    exact ⟨by first|rfl|(simp [errW_none,errW_some] <;>rfl)|(simp [*,errW_none,errW_some] <;>rfl),by repeat (first|(with_reducible first|exact HI0.out|apply IsS67.alloc|apply IsS67.drewN|apply IsS67.drew|apply IsS67.set_1|apply IsS67.set_2)|exact HI0.out),by repeat (first|(with_reducible first|exact HB.out|apply below_alloc|apply pw_below_drewN|apply below_drew1|refine below_set ?_ (IsS67.ge HI0.out))|exact HB.out),by repeat (first|(with_reducible first|exact HK.out|apply KeepBut.set_|apply keep_drewN|apply keep_drew|apply keep_alloc)|exact HK.out)⟩
  ·
   rw [if_neg c3] at H;exact absurd H (by simp)
 ·
  rw [if_neg c2] at H;have c2b0:=decide_eq_false c2;clear c2
  by_cases c7:(wrap64 (s0_1+1))≤(s0_0.length:Int)
  ·
   rw [if_pos c7] at H;have c7b0:=decide_eq_true c7;clear c7;simp only [Option.some.injEq,Prod.mk.injEq] at H;obtain ⟨rfl,rfl,rfl⟩:=H;obtain ⟨ASz8_0,cSz8_0,HGz8,hgz8,HSz8_0⟩:=HI0.out;have hcz8_0:=cellS67_0 HGz8;have hcz8_1:=cellS67_1 HGz8;have hcz8_2:=cellS67_2 HGz8;have hfz8_1:=blk_frozen HGz8 1;have hfz8_2:=blk_frozen HGz8 2;clear HGz8 hgz8;go_enter Try.func114,Try.ntmps114;go_wp2
   repeat (go_quiet (fail);try go_wp2)
   go_ret
   (try simp only [Int.add_zero])
   exact ⟨by first|rfl|(simp [errW_none,errW_some] <;>rfl)|(simp [*,errW_none,errW_some] <;>rfl),by repeat (first|(with_reducible first|exact HI0.out|apply IsS67.alloc|apply IsS67.drewN|apply IsS67.drew|apply IsS67.set_1|apply IsS67.set_2)|exact HI0.out),by repeat (first|(with_reducible first|exact HB.out|apply below_alloc|apply pw_below_drewN|apply below_drew1|refine below_set ?_ (IsS67.ge HI0.out))|exact HB.out),by repeat (first|(with_reducible first|exact HK.out|apply KeepBut.set_|apply keep_drewN|apply keep_drew|apply keep_alloc)|exact HK.out)⟩
  ·
   rw [if_neg c7] at H;have c7b0:=decide_eq_false c7;clear c7;simp only [Option.some.injEq,Prod.mk.injEq] at H;obtain ⟨rfl,rfl,rfl⟩:=H;obtain ⟨ASz9_0,cSz9_0,HGz9,hgz9,HSz9_0⟩:=HI0.out;have hcz9_0:=cellS67_0 HGz9;have hcz9_1:=cellS67_1 HGz9;have hcz9_2:=cellS67_2 HGz9;have hfz9_1:=blk_frozen HGz9 1;have hfz9_2:=blk_frozen HGz9 2;clear HGz9 hgz9;go_enter Try.func114,Try.ntmps114;go_wp2
   repeat (go_quiet (fail);try go_wp2)
   go_ret
   (try simp only [Int.add_zero])
   exact ⟨by first|rfl|(simp [errW_none,errW_some] <;>rfl)|(simp [*,errW_none,errW_some] <;>rfl),by repeat (first|(with_reducible first|exact HI0.out|apply IsS67.alloc|apply IsS67.drewN|apply IsS67.drew|apply IsS67.set_1|apply IsS67.set_2)|exact HI0.out),by repeat (first|(with_reducible first|exact HB.out|apply below_alloc|apply pw_below_drewN|apply below_drew1|refine below_set ?_ (IsS67.ge HI0.out))|exact HB.out),by repeat (first|(with_reducible first|exact HK.out|apply KeepBut.set_|apply keep_drewN|apply keep_drew|apply keep_alloc)|exact HK.out)⟩
def spec_l1Cur_pick.f (s0_0 : List Int) (s0_1 : Int) (s0_2 : Int) (a1 : Int) : Option (Int × Int × Int) := if a1 ≤ 1 then (some (0, s0_1, s0_2)) else ((spec_l1Cur_next.f s0_0 s0_1 s0_2).bind fun bt191 => (if a1 > 200 then ((spec_l1Cur_next.f s0_0 bt191.2.1 bt191.2.2).bind fun bt194 => (if a1 = 0 then (none) else (some (Int.tmod (wrap64 ((wrap64 (bt191.1 * 256)) + bt194.1)) a1, bt194.2.1, bt194.2.2)))) else (if a1 = 0 then (none) else (some (Int.tmod bt191.1 a1, bt191.2.1, bt191.2.2)))))
set_option maxHeartbeats 8000000 in
set_option maxRecDepth 100000 in
theorem spec_l1Cur_pick.calls (g : Nat) (s0_0 : List Int) (s0_1 : Int) (s0_2 : Int) (a1 : Int) (r1 : Int) (r2 : Int) (r3 : Int) (w0 w : World) (hI : IsS67 w0 w g s0_0 s0_1 s0_2) (hB : Below w0.heap.size w0 w) (h : spec_l1Cur_pick.f s0_0 s0_1 s0_2 a1 = some (r1, r2, r3)) :
 Calls Try.prog 58 #[.pointer (some ⟨g,0,none⟩), .int .i64 a1] w fun e w'=>e= .returned (.int .i64 r1)∧IsS67 w0 w' g s0_0 r2 r3∧Below w0.heap.size w0 w'∧KeepBut w w' g none:=by
 have HI0:=Aside0.mk hI;have HK:=Aside0.mk (KeepBut.refl w g none);have HL:=Aside0.mk hB.size;clear hI;have HW0:=Aside0.mk hB.size;have HB:=Aside0.mk hB;clear hB;have H:(if a1≤1 then (some (0,s0_1,s0_2)) else ((spec_l1Cur_next.f s0_0 s0_1 s0_2).bind fun bt191=>(if a1>200 then ((spec_l1Cur_next.f s0_0 bt191.2.1 bt191.2.2).bind fun bt194=>(if a1=0 then (none) else (some (Int.tmod (wrap64 ((wrap64 (bt191.1*256))+bt194.1)) a1,bt194.2.1,bt194.2.2)))) else (if a1=0 then (none) else (some (Int.tmod bt191.1 a1,bt191.2.1,bt191.2.2))))))=some (r1,r2,r3):=h;clear h
 by_cases c3:a1≤1
 ·
  rw [if_pos c3] at H;have c3b0:=decide_eq_true c3;clear c3;simp only [Option.some.injEq,Prod.mk.injEq] at H;obtain ⟨rfl,rfl,rfl⟩:=H;go_enter Try.func58,Try.ntmps58;go_wp2
  go_ret
  exact ⟨by first|rfl|(simp [errW_none,errW_some] <;>rfl)|(simp [*,errW_none,errW_some] <;>rfl),IsS67.u HI0,uB HB,uP HK⟩
 ·
  rw [if_neg c3] at H;have c3b0:=decide_eq_false c3;clear c3;obtain ⟨⟨t191,t192,t193⟩,A4,H⟩:=bs H;(try dsimp only at H)
  by_cases c5:a1>200
  ·
   rw [if_pos c5] at H;have c5b0:=decide_eq_true c5;clear c5;obtain ⟨⟨t194,t195,t196⟩,A6,H⟩:=bs H;(try dsimp only at H)
   by_cases c7:a1=0
   ·
    rw [if_pos c7] at H;exact absurd H (by simp)
   ·
    rw [if_neg c7] at H;have c7b0:(a1==0)=false:=beq_eq_false_iff_ne.mpr c7;have c7b1:(a1 !=0)=true:=bne_iff_ne.mpr c7;simp only [Option.some.injEq,Prod.mk.injEq] at H;obtain ⟨rfl,rfl,rfl⟩:=H;go_enter Try.func58,Try.ntmps58;go_wp2_with (first|(refine gA (some 9) Try.func114 #[.pointer (some ⟨g,0,none⟩)] ?_;(with_reducible refine (spec_l1Cur_next.calls g s0_0 s0_1 s0_2 t191 t192 t193 w0 _ (IsS67.u HI0) (uB HB) A4.out).mono ?_);rintro e w8 ⟨rfl,hi,hb,hk⟩;refine ⟨_,rfl,?_⟩;replace HK:=Aside0.mk (KeepBut.trans (uP HK) hk (.inl rfl));replace HB:=Aside0.mk (hb);replace HI0:=Aside0.mk (hi);(try clear hb hk hi))|(refine gA (some 15) Try.func114 #[.pointer (some ⟨g,0,none⟩)] ?_;(with_reducible refine (spec_l1Cur_next.calls g s0_0 t192 t193 t194 t195 t196 w0 _ (IsS67.u HI0) (uB HB) A6.out).mono ?_);rintro e w9 ⟨rfl,hi,hb,hk⟩;refine ⟨_,rfl,?_⟩;replace HK:=Aside0.mk (KeepBut.trans (uP HK) hk (.inl rfl));replace HB:=Aside0.mk (hb);replace HI0:=Aside0.mk (hi);(try clear hb hk hi)))
    go_ret
    exact ⟨by first|rfl|(simp [errW_none,errW_some] <;>rfl)|(simp [*,errW_none,errW_some] <;>rfl),IsS67.u HI0,uB HB,uP HK⟩
  ·
   rw [if_neg c5] at H;have c5b0:=decide_eq_false c5;clear c5
   by_cases c10:a1=0
   ·
    rw [if_pos c10] at H;exact absurd H (by simp)
   ·
    rw [if_neg c10] at H;have c10b0:(a1==0)=false:=beq_eq_false_iff_ne.mpr c10;have c10b1:(a1 !=0)=true:=bne_iff_ne.mpr c10;simp only [Option.some.injEq,Prod.mk.injEq] at H;obtain ⟨rfl,rfl,rfl⟩:=H;go_enter Try.func58,Try.ntmps58;go_wp2_with (first|(refine gA (some 9) Try.func114 #[.pointer (some ⟨g,0,none⟩)] ?_;(with_reducible refine (spec_l1Cur_next.calls g s0_0 s0_1 s0_2 t191 t192 t193 w0 _ (IsS67.u HI0) (uB HB) A4.out).mono ?_);rintro e w11 ⟨rfl,hi,hb,hk⟩;refine ⟨_,rfl,?_⟩;replace HK:=Aside0.mk (KeepBut.trans (uP HK) hk (.inl rfl));replace HB:=Aside0.mk (hb);replace HI0:=Aside0.mk (hi);(try clear hb hk hi)))
    go_ret
    exact ⟨by first|rfl|(simp [errW_none,errW_some] <;>rfl)|(simp [*,errW_none,errW_some] <;>rfl),IsS67.u HI0,uB HB,uP HK⟩
end Go.Proofs.Ytkgngggppcmpfaa.L
end
section
namespace Go.Proofs.Ytkgngggppcmpfaa.L
open Go.RowKit Go.Proofs.YtkgngggppcmpfaaW.PrintWords Go.Proofs.YtkgngggppcmpfaaW.PrintLast Go.Proofs.YtkgngggppcmpfaaW.PrintMore Go.Proofs.Ytkgngggppcmpfaa.X
set_option linter.unusedVariables false
theorem IsS67.vB {w0 w W : World} (k : Aside0 (Below w0.heap.size w0 w)) (h : Below w0.heap.size w0 W := by repeat (first | (with_reducible first | exact HB.out | apply below_alloc | apply pw_below_drewN | apply below_drew1 | refine below_set ?_ (IsS67.ge (Aside0.out (by assumption))) | refine below_set ?_ (Aside0.out (by assumption))) | exact HB.out)) : Below w0.heap.size w0 W := h
theorem IsS67.vI {w0 W : World} {g : Nat} {f0 : List Int} {f1 : Int} {f2 : Int} {W1 : World} {f0_ : List Int} {f1_ : Int} {f2_ : Int} (k : Aside0 (IsS67 w0 W g f0 f1 f2)) (h : IsS67 w0 W1 g f0_ f1_ f2_ := by repeat (first | (with_reducible first | exact HI0.out | apply IsS67.alloc | apply IsS67.drewN | apply IsS67.drew | apply IsS67.set_1 | apply IsS67.set_2 | refine IsS67.far ?_ (Aside0.out (by assumption)) _) | exact HI0.out)) : IsS67 w0 W1 g f0_ f1_ f2_ := h
end Go.Proofs.Ytkgngggppcmpfaa.L
end
section
namespace Go.Proofs.Ytkgngggppcmpfaa.L
open Go.RowKit Go.Proofs.YtkgngggppcmpfaaW.PrintWords Go.Proofs.YtkgngggppcmpfaaW.PrintLast Go.Proofs.YtkgngggppcmpfaaW.PrintMore
attribute [local go_sem] max2_int min2_int max_two min_two max_three min_three max_four min_four
set_option linter.unusedVariables false
set_option linter.unusedSimpArgs false
def spec_poIn.f (a0 : Int) (a1 : Int) : Option (Bool) := if 0 ≤ a1 then (some ((Int.tmod (shr .i64 a0 a1) 2) == 1)) else (none)
set_option maxHeartbeats 8000000 in
set_option maxRecDepth 100000 in
theorem spec_poIn.calls (a0 : Int) (a1 : Int) (r : Bool) (w : World) (h : spec_poIn.f a0 a1 = some r) :
 Calls Try.prog 59 #[.int .i64 a0, .int .i64 a1] w fun e w'=>e= .returned (.bool r)∧Drawn0 w w':=by
 have H:(if 0≤a1 then (some ((Int.tmod (shr .i64 a0 a1) 2)==1)) else (none))=some r:=h;clear h
 by_cases c3:0≤a1
 ·
  rw [if_pos c3] at H;have c3b0:=eq_true c3;have c3b1:=decide_eq_true c3;clear c3;obtain ⟨ji4,hji4⟩: ∃ j_:Int,(shr .i64 a0 a1)=j_:=⟨_,rfl⟩
  replace H:(some ((Int.tmod (ji4) 2)==1))=some r:=by first|(rw [hji4] at H;exact H)|(simp only [hji4] at H ⊢;exact H)
  have hji4_:(a0 / 2 ^ min a1.toNat 64)=ji4:=hji4;have hji4z:a1≤64→(a0 / 2 ^ a1.toNat)=ji4:=shr_small hji4;obtain rfl:=Option.some.inj H;go_enter Try.func59,Try.ntmps59;go_wp2
  go_ret
  exact ⟨by first|rfl|(simp;done)|(simp only [←hji4] <;>(first|rfl|simp))|(simp [*];done),by repeat (first|exact Drawn0.refl _|apply Drawn0.step)⟩
 ·
  rw [if_neg c3] at H;exact absurd H (by simp)
def spec_l1Most.f (a0 : Int) (a1 : Int) : Option (Int) := if a0 > a1 then (some a0) else (some a1)
set_option maxHeartbeats 8000000 in
set_option maxRecDepth 100000 in
theorem spec_l1Most.calls (a0 : Int) (a1 : Int) (r : Int) (w : World) (h : spec_l1Most.f a0 a1 = some r) :
 Calls Try.prog 60 #[.int .i64 a0, .int .i64 a1] w fun e w'=>e= .returned (.int .i64 r)∧Drawn0 w w':=by
 have H:(if a0>a1 then (some a0) else (some a1))=some r:=h;clear h
 by_cases c3:a0>a1
 ·
  rw [if_pos c3] at H;have c3b0:=decide_eq_true c3;clear c3;obtain rfl:=Option.some.inj H;go_enter Try.func60,Try.ntmps60;go_wp2
  go_ret
  exact ⟨by first|rfl|(simp;done)|(simp [*];done),by repeat (first|exact Drawn0.refl _|apply Drawn0.step)⟩
 ·
  rw [if_neg c3] at H;have c3b0:=decide_eq_false c3;clear c3;obtain rfl:=Option.some.inj H;go_enter Try.func60,Try.ntmps60;go_wp2
  go_ret
  exact ⟨by first|rfl|(simp;done)|(simp [*];done),by repeat (first|exact Drawn0.refl _|apply Drawn0.step)⟩
end Go.Proofs.Ytkgngggppcmpfaa.L
end
section
namespace Go.Proofs.Ytkgngggppcmpfaa.L
open Go.RowKit Go.Proofs.YtkgngggppcmpfaaW.PrintWords Go.Proofs.YtkgngggppcmpfaaW.PrintLast Go.Proofs.YtkgngggppcmpfaaW.PrintMore Go.Proofs.Ytkgngggppcmpfaa.X
attribute [local go_sem] max2_int min2_int max_two min_two max_three min_three max_four min_four
set_option linter.unusedVariables false
set_option linter.unusedSimpArgs false
def spec_l1Cur_among.f (s0_0 : List Int) (s0_1 : Int) (s0_2 : Int) (l1 : List Int) : Option (Int × Int × Int) := (spec_l1Cur_pick.f s0_0 s0_1 s0_2 (l1.length : Int)).bind fun bt197 => (if 0 ≤ bt197.1 then (if bt197.1 < (l1.length : Int) then (some (rd l1 bt197.1, bt197.2.1, bt197.2.2)) else (none)) else (none))
set_option maxHeartbeats 8000000 in
set_option maxRecDepth 100000 in
theorem spec_l1Cur_among.calls (g : Nat) (s0_0 : List Int) (s0_1 : Int) (s0_2 : Int) (A1 : Option Addr) (c1 : Nat) (l1 : List Int) (r1 : Int) (r2 : Int) (r3 : Int) (w0 w : World) (hI : IsS67 w0 w g s0_0 s0_1 s0_2) (hB : Below w0.heap.size w0 w) (hr1 : Kd.C (Kd.int .i64) w A1 l1.length l1) (hc1 : l1.length ≤ c1) (hf1 : ∀ ad, A1 = some ad → 0 < l1.length → ad.block ≠ g) (h : spec_l1Cur_among.f s0_0 s0_1 s0_2 l1 = some (r1, r2, r3)) :
 Calls Try.prog 94 #[.pointer (some ⟨g,0,none⟩), .slice A1 l1.length c1] w fun e w'=>e= .returned (.int .i64 r1)∧IsS67 w0 w' g s0_0 r2 r3∧Below w0.heap.size w0 w'∧KeepBut w w' g none:=by
 have HR1:=Aside0.mk hr1;have HC1:=Aside0.mk hc1;clear hr1 hc1;have HI0:=Aside0.mk hI;have HK:=Aside0.mk (KeepBut.refl w g none);have HL:=Aside0.mk hB.size;clear hI;have HW0:=Aside0.mk hB.size;have HB:=Aside0.mk hB;clear hB;have H:((spec_l1Cur_pick.f s0_0 s0_1 s0_2 (l1.length:Int)).bind fun bt197=>(if 0≤bt197.1 then (if bt197.1<(l1.length:Int) then (some (rd l1 bt197.1,bt197.2.1,bt197.2.2)) else (none)) else (none)))=some (r1,r2,r3):=h;clear h;obtain ⟨⟨t197,t198,t199⟩,A3,H⟩:=bs H;(try dsimp only at H)
 by_cases c4:0≤t197
 ·
  rw [if_pos c4] at H;have c4b0:=decide_eq_true c4;clear c4
  by_cases c5:t197<(l1.length:Int)
  ·
   rw [if_pos c5] at H;have c5b0:=decide_eq_true c5;clear c5;simp only [Option.some.injEq,Prod.mk.injEq] at H;obtain ⟨rfl,rfl,rfl⟩:=H;go_enter Try.func94,Try.ntmps94;go_wp2_with (first|(refine gA (some 9) Try.func58 #[.pointer (some ⟨g,0,none⟩), .int .i64 (l1.length:Int)] ?_;(with_reducible refine (spec_l1Cur_pick.calls g s0_0 s0_1 s0_2 (l1.length:Int) t197 t198 t199 w0 _ (IsS67.u HI0) (uB HB) A3.out).mono ?_);rintro e w6 ⟨rfl,hi,hb,hk⟩;refine ⟨_,rfl,?_⟩;replace HK:=Aside0.mk (KeepBut.trans (uP HK) hk (.inl rfl));replace HB:=Aside0.mk (hb);replace HI0:=Aside0.mk (hi);(try clear hb hk hi);have p200:0≤(t197:Int):=of_decide_eq_true (by first|(with_reducible assumption)|assumption);have q200:t197<(l1.length:Int):=of_decide_eq_true (by first|(with_reducible assumption)|assumption);obtain ⟨ad200,e200,hx200_0⟩:=Kd.at_int HR1.out t197 p200 q200;cases e200;replace hx200_0:=keep_cell HK.out hx200_0 (by first|(rw [add_block];exact hf1 _ rfl (by omega))|exact hf1 _ rfl (by omega)|exact hf1 ad200 rfl (by omega));replace p200:=eq_true p200;replace q200:=eq_true q200))
   go_ret
   exact ⟨by first|rfl|(simp [errW_none,errW_some] <;>rfl)|(simp [*,errW_none,errW_some] <;>rfl),IsS67.u HI0,uB HB,uP HK⟩
  ·
   rw [if_neg c5] at H;exact absurd H (by simp)
 ·
  rw [if_neg c4] at H;exact absurd H (by simp)
def spec_l1Own.f (l0 : List Int) : Option (List Int) := (some (([] : List Int) : List Int)).bind fun y201 => (if y201.length + l0.length < 17592186044416 then (some (y201 ++ l0)) else (none))
set_option maxHeartbeats 8000000 in
set_option maxRecDepth 100000 in
theorem spec_l1Own.calls (A0 : Option Addr) (c0 : Nat) (l0 : List Int) (r : List Int) (w : World) (hr0 : Kd.C (Kd.int .i64) w A0 l0.length l0) (hc0 : l0.length ≤ c0) (h : spec_l1Own.f l0 = some r) :
 Calls Try.prog 70 #[.slice A0 l0.length c0] w fun e w'=> ∃ v0_:Value,e= .returned (v0_)∧Kd.R (Kd.int .i64) 3 w' w.heap.size (fun _=>True) v0_ r∧Below w.heap.size w w':=by
 have HR0:=Aside0.mk hr0;have HC0:=Aside0.mk hc0;clear hr0 hc0;have HB:=Aside0.mk (Below.refl w.heap.size w);have H:((some (([] :List Int):List Int)).bind fun y201=>(if y201.length+l0.length<17592186044416 then (some (y201++l0)) else (none)))=some r:=h;clear h;obtain ⟨y201,hy201⟩: ∃ y_:List Int,y_=(([] :List Int)):=⟨_,rfl⟩
 replace H:(if y201.length+l0.length<17592186044416 then (some (y201++l0)) else (none))=some r:=by first|(rw [hy201];with_reducible exact H)|(have H2_:=(Option.bind_some _ _).symm.trans H;rw [hy201];with_reducible exact H2_)|(have H2_:=(Option.bind_some _ _).symm.trans H;with_reducible exact H2_)|with_reducible exact H|(rw [hy201];exact H)|exact H
 have Ny201:=Aside0.mk hy201;clear hy201
 by_cases c2:y201.length+l0.length<17592186044416
 ·
  rw [if_pos c2] at H;have LMc2:=Aside0.mk c2;clear c2;obtain ⟨y204,hy204⟩: ∃ y_:List Int,y_=(y201++l0):=⟨_,rfl⟩
  replace H:(some y204)=some r:=by first|(rw [hy204];with_reducible exact H)|(have H2_:=(Option.bind_some _ _).symm.trans H;rw [hy204];with_reducible exact H2_)|(have H2_:=(Option.bind_some _ _).symm.trans H;with_reducible exact H2_)|with_reducible exact H|(rw [hy204];exact H)|exact H
  have Ny204:=Aside0.mk hy204;clear hy204;obtain rfl:=Option.some.inj H;go_enter Try.func70,Try.ntmps70;go_wp2_with (first|((with_reducible refine gate_dst (N:=3) rfl ?_);refine Kd.R_lit (Kd.int .i64) _ 3 ?hg (N:=3) ?hd (xs:=([] :List Int)) (inner:= []) (ok:=fun _=>True) (okp:=fun _=>True) ?hr ?hp (fun _ hk=>hk) trivial (Below.refl _ _) (Nat.le_refl _) (by simp) ?_;(case hd=>rfl);(case hg=>rfl);(case hr=>first|(go_simp;done)|(go_simp;rfl));(case hp=>exact (Reps.none _ _));intro v202 w3 ho4 hb hg_ hnew_;clear hg_ hnew_;(first|rw [←Ny201.out] at ho4|(simp only [Int.reduceToNat] at ho4;rw [←Ny201.out] at ho4));have HO203:=Aside0.mk (Kd.R_lower ho4 (below_size (uB HB)));replace HB:=Aside0.mk (below_step (uB HB) hb);clear hb ho4)|((with_reducible refine gate_builtin (b:= .append) (xs:= #[.tmp 3, .tmp 4]) rfl ?_);at_builtin;refine Kd.R_append_rows (Kd.int .i64) (w0:=w) w.heap.size rfl (.tmp 3) (.tmp 4) 24 3 (.int .i64 0) 8 rfl Try.underlying24 info3 rfl (by decide) (by omega) v202 y201 l0 _ _ _ (fun _=>True) (fun _=>False) rfl rfl ?aO ?aR (fun _ _ h=>h) (fun _ h=>h.elim) ?aF ?aB ?aS ?aL ?_;(case aR=>repeat (first|exact (Kd.C_below HR0.out HB.out)|(with_reducible refine Kd.C_alloc ?_ _)|(with_reducible refine Kd.C_drewN ?_ _)|(with_reducible refine Kd.C_drew ?_)));(case aB=>exact (uB HB));(case aF=>exact (fun _ _=>trivial));(case aO=>exact (uR HO203));(case aS=>exact (below_size (uB HB)));(case aL=>have:=LMc2.out;omega);intro v205 w5 ho hb hg hat;rw [←Ny204.out] at ho;replace HB:=Aside0.mk (hb);have HO206:=Aside0.mk (ho);clear HO203;clear ho hb hg hat))
  go_ret
  exact ⟨_,by first|rfl|(simp [errW_none,errW_some] <;>rfl)|(simp [*,errW_none,errW_some] <;>rfl),uR HO206,uB HB⟩
 ·
  rw [if_neg c2] at H;exact absurd H (by simp)
mutual
def spec_poFrom.l0 : Nat → Int → List (List Int) → Int → List Int → Option (List Int)
 |0,_,_,_,_=>none
 |k+1,x0,x1,x6,x212000=>if x6<x0 then (spec_poFrom.l1 k x0 x1 x6 x1 (x1.length:Int) 0 x212000) else (some x212000)
def spec_poFrom.l1 : Nat → Int → List (List Int) → Int → List (List Int) → Int → Int → List Int → Option (List Int)
 |0,_,_,_,_,_,_,_=>none
 |k+1,x0,x1,x6,x17,x18,x19,x212000=>if x19<x18 then (if 0≤x19 then (if x19<(x17.length:Int) then (if 1<((rd_L2 x17 x19).length:Int) then (if (rd (rd_L2 x17 x19) 1)=x6 then (if 0≤x6 then (if x6<(x212000.length:Int) then (if 0<((rd_L2 x17 x19).length:Int) then (if 0≤(rd (rd_L2 x17 x19) 0) then (if (rd (rd_L2 x17 x19) 0)<(x212000.length:Int) then (spec_poFrom.l1 k x0 x1 x6 x17 x18 (wrap64 (x19+1)) (x212000.set (x6:Int).toNat (Go.bits .or .i64 (rd x212000 x6) (Go.bits .or .i64 (shl .i64 1 (rd (rd_L2 x17 x19) 0)) (rd x212000 (rd (rd_L2 x17 x19) 0)))))) else (none)) else (none)) else (none)) else (none)) else (none)) else (spec_poFrom.l1 k x0 x1 x6 x17 x18 (wrap64 (x19+1)) x212000)) else (none)) else (none)) else (none)) else (spec_poFrom.l0 k x0 x1 (wrap64 (x6+1)) x212000)
end
def spec_poFrom.f (k : Nat) (a0 : Int) (l1 : List (List Int)) : Option (List Int) := if 0 ≤ a0 then (if (a0 : Int).toNat ≤ 35184372088832 then (spec_poFrom.l0 k a0 l1 0 (List.replicate (a0 : Int).toNat 0)) else (none)) else (none)
theorem spec_poFrom.mono_l : ∀ k, (∀ y0 y1 y2 y3, LeO (spec_poFrom.l0 k y0 y1 y2 y3) (spec_poFrom.l0 (k + 1) y0 y1 y2 y3)) ∧ (∀ y0 y1 y2 y3 y4 y5 y6, LeO (spec_poFrom.l1 k y0 y1 y2 y3 y4 y5 y6) (spec_poFrom.l1 (k + 1) y0 y1 y2 y3 y4 y5 y6))
 |0=>⟨fun _ _ _ _ r h=>by simp [spec_poFrom.l0] at h,fun _ _ _ _ _ _ _ r h=>by simp [spec_poFrom.l1] at h⟩
 |k+1=>by
  obtain ⟨ih0,ih1⟩:=spec_poFrom.mono_l k;refine ⟨?_,?_⟩
  ·
   intro y0 y1 y2 y3;unfold spec_poFrom.l0
   repeat' first
   |(with_reducible exact ih0 _ _ _ _)
   |(with_reducible exact ih1 _ _ _ _ _ _ _)
   |(with_reducible exact LeO.refl _)
   |(with_reducible exact LeO.none _)
   |(with_reducible refine LeO.ite ?_ ?_)
   |(with_reducible refine LeO.bind ?_ (fun _=> ?_))
   |exact ih0 _ _ _ _
   |exact ih1 _ _ _ _ _ _ _
   |exact LeO.none _
   |refine LeO.ite ?_ ?_
   |refine LeO.bind ?_ (fun _=> ?_)
  ·
   intro y0 y1 y2 y3 y4 y5 y6;unfold spec_poFrom.l1
   repeat' first
   |(with_reducible exact ih0 _ _ _ _)
   |(with_reducible exact ih1 _ _ _ _ _ _ _)
   |(with_reducible exact LeO.refl _)
   |(with_reducible exact LeO.none _)
   |(with_reducible refine LeO.ite ?_ ?_)
   |(with_reducible refine LeO.bind ?_ (fun _=> ?_))
   |exact ih0 _ _ _ _
   |exact ih1 _ _ _ _ _ _ _
   |exact LeO.none _
   |refine LeO.ite ?_ ?_
   |refine LeO.bind ?_ (fun _=> ?_)
theorem spec_poFrom.mono : ∀ a0 a1 k, LeO (spec_poFrom.f k a0 a1) (spec_poFrom.f (k + 1) a0 a1) := by
 intro a0 a1 k;obtain ⟨ih0,ih1⟩:=spec_poFrom.mono_l k;unfold spec_poFrom.f
 repeat' first
  |(with_reducible exact ih0 _ _ _ _)
  |(with_reducible exact ih1 _ _ _ _ _ _ _)
  |(with_reducible exact LeO.refl _)
  |(with_reducible exact LeO.none _)
  |(with_reducible refine LeO.ite ?_ ?_)
  |(with_reducible refine LeO.bind ?_ (fun _=> ?_))
  |exact ih0 _ _ _ _
  |exact ih1 _ _ _ _ _ _ _
  |exact LeO.none _
  |refine LeO.ite ?_ ?_
  |refine LeO.bind ?_ (fun _=> ?_)
def spec_poFrom.T9 : Bool × List (List Nat × List Nat) := (true, [([], []), ([0], [0]), ([], []), ([1, 2], [1, 2]), ([3], [3]), ([], []), ([5], [5]), ([6], [6]), ([7], [7]), ([], []), ([9], [9]), ([], []), ([11], [11]), ([12], [12]), ([10, 13], [10, 13]), ([14], [14]), ([8, 15], [8, 15]), ([4, 16], [4, 16]), ([1, 2, 0, 1, 2, 3, 4, 5, 6, 7, 8, 9, 10, 11, 12, 13, 14, 15, 16, 17], [1, 2]), ([18, 17, 0, 1, 2, 3, 4, 5, 6, 7, 8, 9, 10, 11, 12, 13, 14, 15, 16, 17], [17, 18])])
def spec_poFrom.B9 : List Nat := [0, 1, 0, 7, 15, 0, 32, 96, 224, 0, 512, 0, 2048, 6144, 15872, 32256, 65504, 131071, 262143, 524287]
theorem spec_poFrom.tab9 : rtab .any (opsOf Try.f113 9) = spec_poFrom.T9 := by kernel_rfl
theorem spec_poFrom.bits9 : waitsOk spec_poFrom.T9.2 spec_poFrom.B9 = true := by kernel_rfl
set_option maxHeartbeats 8000000 in
set_option maxRecDepth 100000 in
theorem spec_poFrom.calls (k : Nat) (a0 : Int) (A1 : Option Addr) (c1 : Nat) (l1 : List (List Int)) (r : List Int) (w : World) (hr1 : Kd.C (Kd.slice 3 (Kd.int .i64)) w A1 l1.length l1) (hc1 : l1.length ≤ c1) (h : spec_poFrom.f k a0 l1 = some r) :
 Calls Try.prog 113 #[.int .i64 a0, .slice A1 l1.length c1] w fun e w'=> ∃ v0_:Value,e= .returned (.agg #[v0_])∧Kd.R (Kd.int .i64) 3 w' w.heap.size (fun _=>True) v0_ r∧Below w.heap.size w w':=by
 have hu26:=Try.underlying26;have HR1:=Aside0.mk hr1;have HC1:=Aside0.mk hc1;clear hr1 hc1;have HB:=Aside0.mk (Below.refl w.heap.size w);have H:(if 0≤a0 then (if (a0:Int).toNat≤35184372088832 then (spec_poFrom.l0 k a0 l1 0 (List.replicate (a0:Int).toNat 0)) else (none)) else (none))=some r:=h;clear h
 by_cases c3:0≤a0
 ·
  rw [if_pos c3] at H;have c3b0:=eq_true c3;have c3b1:=decide_eq_true c3;clear c3
  by_cases c4:(a0:Int).toNat≤35184372088832
  ·
   rw [if_pos c4] at H;have c4b0:=eq_true c4;have c4b1:=decide_eq_true c4;clear c4;obtain ⟨y208,hy208⟩: ∃ y_:List Int,y_=(List.replicate (a0:Int).toNat 0):=⟨_,rfl⟩
   replace H:(spec_poFrom.l0 k a0 l1 0 y208)=some r:=by first|(rw [hy208];with_reducible exact H)|(have H2_:=(Option.bind_some _ _).symm.trans H;rw [hy208];with_reducible exact H2_)|(have H2_:=(Option.bind_some _ _).symm.trans H;with_reducible exact H2_)|with_reducible exact H|(rw [hy208];exact H)|exact H
   have Ny208:=Aside0.mk hy208;clear hy208;have H':=Aside0.mk H;clear H;go_enter Try.func113,Try.ntmps113;go_wp2_with (first|(refine bE (N:=4) (cs:= #[.slice none 0 0]) (t:=26) ?_;intro gb207 hg w5 hbox hb;have BK207:=Aside0.mk (hbox);have GW207:=Aside0.mk ((by rw [hg];exact (below_size (uB HB)):w.heap.size≤gb207));have GE207:=GW207;replace HB:=Aside0.mk (below_step (uB HB) hb);clear hb hbox hg)|((with_reducible refine gate_dst (N:=10) rfl ?_);refine Kd.R_make (Kd.int .i64) _ 3 rfl (N:=10) rfl 24 _ _ rfl a0 rfl rfl Try.underlying24 (.int .i64 0) 8 info3 rfl (by decide) (by omega) 0 (ok:=fun _=>True) (okp:=fun _=>True) rfl (fun _ hk=>hk) trivial (of_decide_eq_true (by first|(with_reducible assumption)|assumption)) (Nat.le_trans (Nat.mul_le_mul_right _ (of_decide_eq_true (by first|(with_reducible assumption)|assumption):a0.toNat≤35184372088832)) (by omega)) (Below.refl _ _) (Nat.le_refl _) ?_;intro v209 w6 ho7 hb hg_ hnew_;clear hg_ hnew_;(first|rw [←Ny208.out] at ho7|(simp only [Int.reduceToNat] at ho7;rw [←Ny208.out] at ho7));have HO210:=Aside0.mk (Kd.R_lower ho7 (below_size (uB HB)));replace BK207:=Aside0.mk (blk_below (uK BK207) hb);replace HB:=Aside0.mk (below_step (uB HB) hb);clear hb ho7;obtain ⟨Ao8,co8,eo8⟩:=Kd.R_slice HO210.out;subst eo8)|(refine bE (N:=5) (cs:= #[.slice none 0 0]) (t:=26) ?_;intro gb211 hg w9 hbox hb;replace HO210:=Aside0.mk (Kd.R_below (uR HO210) hb);have BK211:=Aside0.mk (hbox);have GW211:=Aside0.mk ((by rw [hg];exact (below_size (uB HB)):w.heap.size≤gb211));have GE211:=GW211;replace HB:=Aside0.mk (below_step (uB HB) hb);have NB207_211:=Aside0.mk ((by rw [hg];exact Nat.ne_of_lt (blk_lt (uK BK207)):gb207≠gb211));have NB211_207:=Aside0.mk ((by rw [hg];exact Nat.ne_of_gt (blk_lt (uK BK207)):gb211≠gb207));replace BK207:=Aside0.mk (blk_below (uK BK207) hb);clear hb hbox hg;have hnb10:=NB211_207.out;have hnc10:=NB207_211.out;have hcz11_0:=bC BK211;have hfz11_0:=blk_frozen BK211.out 0))
   go_loopg [6] k (fun kq v6 w'=> ∃ (x6_1:Int) (x212000_1:List Int) (u212000:Value),v6= .int .i64 x6_1∧Aside0 (spec_poFrom.l0 kq a0 l1 x6_1 x212000_1=some r)∧Aside0 (kq≤k)∧Aside0 (Kd.R (Kd.int .i64) 3 w' w.heap.size (fun _=>True) u212000 x212000_1)∧Aside0 (w'.heap[gb207]? =some (.cells #[(.slice none 0 0)] 26 (0,0)))∧Aside0 (w'.heap[gb211]? =some (.cells #[u212000] 26 (0,0)))∧Aside0 (Below w.heap.size w w'))
   case atStart=>exact ⟨(0),(y208),(.slice Ao8 y208.length co8),(by first|rfl|(simp;done)|(simp [*];done)),H',⟨Nat.le_refl _⟩,⟨by (with_reducible repeat (first|apply Kd.R_alloc|apply Kd.R_drewN|apply Kd.R_drew));exact Kd.R_mono (Kd.R_far (p:=⟨gb211,0,none⟩) (Kd.R_types HO210.out BK211.out (by decide)) (fun _ hk=>hk.2) (.slice Ao8 y208.length co8)) (fun _ hk=>trivial)⟩,⟨by (with_reducible repeat (first|refine blk_drewN ?_ _|refine blk_drew ?_|refine blk_alloc ?_ _));refine blk_far ?_ NB207_211.out _;(with_reducible repeat (first|refine blk_drewN ?_ _|refine blk_drew ?_|refine blk_alloc ?_ _));exact BK207.out⟩,⟨by (with_reducible repeat (first|refine blk_drewN ?_ _|refine blk_drew ?_|refine blk_alloc ?_ _));refine blk_put (cs:= #[.slice none 0 0]) ?_ 0 _ rfl;(with_reducible repeat (first|refine blk_drewN ?_ _|refine blk_drew ?_|refine blk_alloc ?_ _));exact BK211.out⟩,⟨by repeat (first|(with_reducible first|exact HB.out|apply below_alloc|apply pw_below_drewN|apply below_drew1|refine below_set ?_ GE207.out|refine below_set ?_ GE211.out)|exact HB.out)⟩⟩
   case round=>
    clear H'
    try clear c1
    try clear p2
    try clear c3
    try clear c3b0
    try clear c3b1
    try clear c4
    try clear c4b0
    try clear c4b1
    try clear c10
    try clear c11
    try clear hcz11_0
    try clear hfz11_0
    obtain ⟨x6_1,x212000_1,u212000,rfl,HA,HK1,HO_212000,BK207,BK211,HB⟩:=hrel;cases gk with
    |zero=>exact absurd HA.out (by simp [spec_poFrom.l0])
    |succ k1=>
     have H:=HA.out;clear HA;simp only [spec_poFrom.l0] at H
     by_cases c12:x6_1<a0
     ·
      rw [if_pos c12] at H;have c12b0:=decide_eq_true c12;clear c12;have H':=Aside0.mk H;clear H;go_wp2
      go_loopg [19] k1 (fun kq v19 w'=> ∃ (x19_2:Int) (x212000_2:List Int) (u212000:Value),v19= .int .i64 x19_2∧Aside0 (spec_poFrom.l1 kq a0 l1 x6_1 l1 (l1.length:Int) x19_2 x212000_2=some r)∧Aside0 (kq≤k1)∧Aside0 (Kd.R (Kd.int .i64) 3 w' w.heap.size (fun _=>True) u212000 x212000_2)∧Aside0 (w'.heap[gb207]? =some (.cells #[(.slice none 0 0)] 26 (0,0)))∧Aside0 (w'.heap[gb211]? =some (.cells #[u212000] 26 (0,0)))∧Aside0 (Below w.heap.size w w'))
      case atStart=>exact ⟨(0),(x212000_1),(u212000),(by first|rfl|(simp;done)|(simp [*];done)),H',⟨Nat.le_refl _⟩,⟨uR HO_212000⟩,⟨uK BK207⟩,⟨uK BK211⟩,⟨uB HB⟩⟩
      case round=>
       clear H'
       try clear c1
       try clear p2
       try clear c3
       try clear c3b0
       try clear c3b1
       try clear c4
       try clear c4b0
       try clear c4b1
       try clear c10
       try clear c11
       try clear c12
       try clear c12b0
       try clear hcz11_0
       try clear hfz11_0
       try clear p2
       obtain ⟨x19_2,x212000_2,u212000,rfl,HA,HK2,HO_212000,BK207,BK211,HB⟩:=hrel;cases gk with
       |zero=>exact absurd HA.out (by simp [spec_poFrom.l1])
       |succ k2=>
        have H:=HA.out;clear HA;simp only [spec_poFrom.l1] at H
        by_cases c13:x19_2<(l1.length:Int)
        ·
         rw [if_pos c13] at H;have c13b0:=decide_eq_true c13;clear c13
         by_cases c14:0≤x19_2
         ·
          rw [if_pos c14] at H;have c14b0:=decide_eq_true c14;clear c14
          by_cases c15:x19_2<(l1.length:Int)
          ·
           rw [if_pos c15] at H;have c15b0:=decide_eq_true c15;clear c15
           by_cases c16:1<((rd_L2 l1 x19_2).length:Int)
           ·
            rw [if_pos c16] at H;have c16b0:=decide_eq_true c16;have c16b1:decide (1<(rd_L2 l1 x19_2).length)=true:=decide_eq_true (by omega);clear c16
            by_cases c17:(rd (rd_L2 l1 x19_2) 1)=x6_1
            ·
             rw [if_pos c17] at H;have c17b0:((rd (rd_L2 l1 x19_2) 1)==x6_1)=true:=beq_iff_eq.mpr c17;have c17b1:((rd (rd_L2 l1 x19_2) 1) !=x6_1)=false:=bne_eq_false_iff_eq.mpr c17;clear c17
             by_cases c18:0≤x6_1
             ·
              rw [if_pos c18] at H;have c18b0:=decide_eq_true c18;clear c18
              by_cases c19:x6_1<(x212000_2.length:Int)
              ·
               rw [if_pos c19] at H;have c19b0:=decide_eq_true c19;clear c19
               by_cases c20:0<((rd_L2 l1 x19_2).length:Int)
               ·
                rw [if_pos c20] at H;have c20b0:=decide_eq_true c20;have c20b1:decide (0<(rd_L2 l1 x19_2).length)=true:=decide_eq_true (by omega);clear c20
                by_cases c21:0≤(rd (rd_L2 l1 x19_2) 0)
                ·
                 rw [if_pos c21] at H;have c21b0:=eq_true c21;have c21b1:=decide_eq_true c21;clear c21;obtain ⟨ji22,hji22⟩: ∃ j_:Int,(shl .i64 1 (rd (rd_L2 l1 x19_2) 0))=j_:=⟨_,rfl⟩
                 replace H:(if (rd (rd_L2 l1 x19_2) 0)<(x212000_2.length:Int) then (spec_poFrom.l1 k2 a0 l1 x6_1 l1 (l1.length:Int) (wrap64 (x19_2+1)) (x212000_2.set (x6_1:Int).toNat (Go.bits .or .i64 (rd x212000_2 x6_1) (Go.bits .or .i64 (ji22) (rd x212000_2 (rd (rd_L2 l1 x19_2) 0)))))) else (none))=some r:=by first|(rw [hji22] at H;exact H)|(simp only [hji22] at H ⊢;exact H)
                 have hji22_:(IntKind.i64.wrap (1*2 ^ min (rd (rd_L2 l1 x19_2) 0).toNat 64))=ji22:=hji22;have hji22z:(rd (rd_L2 l1 x19_2) 0)≤64→(IntKind.i64.wrap (1*2 ^ (rd (rd_L2 l1 x19_2) 0).toNat))=ji22:=shl_small hji22;have hji22u:(IntKind.i64.wrap (2 ^ min (rd (rd_L2 l1 x19_2) 0).toNat 64))=ji22:=by have h_:=hji22_;rw [Int.one_mul] at h_;exact h_
                 have hji22v:(rd (rd_L2 l1 x19_2) 0)≤64→(IntKind.i64.wrap (2 ^ (rd (rd_L2 l1 x19_2) 0).toNat))=ji22:=fun hle_=>by have h_:=hji22z hle_;rw [Int.one_mul] at h_;exact h_
                 have hji22y:(wrap64 (1*2 ^ min (rd (rd_L2 l1 x19_2) 0).toNat 64))=ji22:=(i64_w _).symm.trans hji22_;have hji22x:(rd (rd_L2 l1 x19_2) 0)≤64→(wrap64 (1*2 ^ (rd (rd_L2 l1 x19_2) 0).toNat))=ji22:=fun h_=>(i64_w _).symm.trans (hji22z h_)
                 by_cases c23:(rd (rd_L2 l1 x19_2) 0)<(x212000_2.length:Int)
                 ·
                  rw [if_pos c23] at H;have c23b0:=decide_eq_true c23;clear c23;obtain ⟨y218,hy218⟩: ∃ y_:List Int,y_=(x212000_2.set (x6_1:Int).toNat (Go.bits .or .i64 (rd x212000_2 x6_1) (Go.bits .or .i64 (ji22) (rd x212000_2 (rd (rd_L2 l1 x19_2) 0))))):=⟨_,rfl⟩
                  replace H:(spec_poFrom.l1 k2 a0 l1 x6_1 l1 (l1.length:Int) (wrap64 (x19_2+1)) y218)=some r:=by first|(rw [hy218];with_reducible exact H)|(have H2_:=(Option.bind_some _ _).symm.trans H;rw [hy218];with_reducible exact H2_)|(have H2_:=(Option.bind_some _ _).symm.trans H;with_reducible exact H2_)|with_reducible exact H|(rw [hy218];exact H)|exact H
                  have Ny218:=Aside0.mk hy218;clear hy218;have H':=Aside0.mk H;clear H;have p212:0≤(x19_2:Int):=of_decide_eq_true (by first|(with_reducible assumption)|assumption);have q212:x19_2<(l1.length:Int):=of_decide_eq_true (by first|(with_reducible assumption)|assumption);obtain ⟨ad212,A212_0,c212_0,e212,hx212_0,hl212_0,hi212_0⟩:=at_L2 HR1.out x19_2 p212 q212;cases e212;replace hx212_0:=(HB.out.cell (World.block_lt_of_cell? w _ hx212_0)).trans hx212_0;have HR212_0:=Aside0.mk hi212_0;have HC212_0:=Aside0.mk hl212_0;clear hi212_0 hl212_0;replace p212:=eq_true p212;replace q212:=eq_true q212;have p213:0≤(1:Int):=(by omega)
                  have q213:1<((rd_L2 l1 x19_2).length:Int):=of_decide_eq_true (by first|(with_reducible assumption)|assumption);obtain ⟨ad213,e213,hx213_0⟩:=Kd.at_int HR212_0.out 1 p213 q213;cases e213
                  (try simp only [show (1:Int).toNat=1 from rfl,Nat.reduceMul,Nat.reduceEqDiff,Go.Addr.add,↓reduceIte] at hx213_0)
                  have qi213:(1<(rd_L2 l1 x19_2).length)=True:=eq_true (by omega)
                  (try rw [show ((1:Int)).toNat=1 from rfl] at hx213_0)
                  replace hx213_0:=(HB.out.cell (World.block_lt_of_cell? w _ hx213_0)).trans hx213_0;replace p213:=eq_true p213;replace q213:=eq_true q213
                  try go_wp2
                  replace HO_212000:=Aside0.mk (Kd.R_drew HO_212000.out);replace BK207:=Aside0.mk (blk_drew BK207.out);replace BK211:=Aside0.mk (blk_drew BK211.out);replace HB:=Aside0.mk (below_drew1 HB.out);obtain ⟨Ao26,co26,eo26⟩:=Kd.R_slice HO_212000.out
                  (first|subst eo26|(injection eo26 with f1_ f2_ f3_;have f4_:=f1_.symm;have f5_:=f3_.symm;clear f1_ f2_ f3_;subst f4_;subst f5_))
                  have p214:0≤(x6_1:Int):=of_decide_eq_true (by first|(with_reducible assumption)|assumption);have q214:x6_1<(x212000_2.length:Int):=of_decide_eq_true (by first|(with_reducible assumption)|assumption);obtain ⟨ad214,e214,hx214_0⟩:=Kd.at_int (Kd.R_reads' HO_212000.out).2.2 x6_1 p214 q214;cases e214;replace p214:=eq_true p214;replace q214:=eq_true q214;have p215:0≤(0:Int):=(by omega)
                  have q215:0<((rd_L2 l1 x19_2).length:Int):=of_decide_eq_true (by first|(with_reducible assumption)|assumption);obtain ⟨ad215,e215,hx215_0⟩:=Kd.at_int HR212_0.out 0 p215 q215;have hw215_0:=hx215_0
                  (try rw [show ((0:Int)).toNat=0 from rfl] at hw215_0)
                  (try rw [show 0*1=0 from rfl] at hw215_0)
                  (try rw [Addr.add_zero'] at hw215_0)
                  obtain rfl:ad213=ad215:=(by injection e215)
                  have qi215:(0<(rd_L2 l1 x19_2).length)=True:=eq_true (by omega)
                  (try rw [show ((0:Int)).toNat=0 from rfl] at hx215_0)
                  (try rw [Addr.add_zero'] at hx215_0)
                  replace hx215_0:=(HB.out.cell (World.block_lt_of_cell? w _ hx215_0)).trans hx215_0;replace p215:=eq_true p215;replace q215:=eq_true q215;have p216:0≤(0:Int):=(by omega)
                  have q216:0<((rd_L2 l1 x19_2).length:Int):=of_decide_eq_true (by first|(with_reducible assumption)|assumption);obtain ⟨ad216,e216,hx216_0⟩:=Kd.at_int HR212_0.out 0 p216 q216;have hw216_0:=hx216_0
                  (try rw [show ((0:Int)).toNat=0 from rfl] at hw216_0)
                  (try rw [show 0*1=0 from rfl] at hw216_0)
                  (try rw [Addr.add_zero'] at hw216_0)
                  obtain rfl:ad213=ad216:=(by injection e216)
                  have qi216:(0<(rd_L2 l1 x19_2).length)=True:=eq_true (by omega)
                  (try rw [show ((0:Int)).toNat=0 from rfl] at hx216_0)
                  (try rw [Addr.add_zero'] at hx216_0)
                  replace hx216_0:=(HB.out.cell (World.block_lt_of_cell? w _ hx216_0)).trans hx216_0;replace p216:=eq_true p216;replace q216:=eq_true q216;have p217:0≤((rd (rd_L2 l1 x19_2) 0):Int):=of_decide_eq_true (by first|(with_reducible assumption)|assumption);have q217:(rd (rd_L2 l1 x19_2) 0)<(x212000_2.length:Int):=of_decide_eq_true (by first|(with_reducible assumption)|assumption);obtain ⟨ad217,e217,hx217_0⟩:=Kd.at_int (Kd.R_reads' HO_212000.out).2.2 (rd (rd_L2 l1 x19_2) 0) p217 q217;obtain rfl:ad214=ad217:=(by injection e217)
                  replace p217:=eq_true p217;replace q217:=eq_true q217;have p24:0≤(x6_1:Int):=of_decide_eq_true (by first|(with_reducible assumption)|assumption);have q24:(x6_1:Int)<((x212000_2.length:Int):Int):=of_decide_eq_true (by first|(with_reducible assumption)|assumption);obtain ⟨go24,co24,eo24,gb24,gl24,cl24,HG24⟩:=Kd.R_form HO_212000.out (by omega)
                  (first|cases eo24|(injection eo24 with ea_ en_ ec_;(first|subst ea_|(injection ea_ with ea_;subst ea_));subst ec_;clear en_))
                  have GB24:=Aside0.mk gb24;have GG24:=Aside0.mk HG24;clear gb24 gl24 HG24
                  (first|simp only [add_plain] at hx214_0|skip)
                  (first|simp only [add_plain] at hx217_0|skip)
                  obtain ⟨hx24_0,hf24_0⟩:=Kd.R_celln 0 HO_212000.out (x6_1:Int) p24 q24;replace p24:=eq_true p24;replace q24:=eq_true q24;have HP27:=Kd.R_putn HO_212000.out (x6_1:Int) (Go.bits .or .i64 (rd x212000_2 x6_1) (Go.bits .or .i64 (ji22) (rd x212000_2 (rd (rd_L2 l1 x19_2) 0))));rw [←Ny218.out] at HP27;have HQ27:=Aside0.mk HP27;clear HP27;refine sU (n:=20) (S:=fun w'=>w'.cell? ⟨gb211,0,none⟩=some (.slice (some ⟨go24,0,none⟩) x212000_2.length co26)∧w'.cell? ⟨go24,(x6_1).toNat,none⟩=some (.int .i64 (rd x212000_2 x6_1))∧w'.cell? ad213=some (.int .i64 (rd (rd_L2 l1 x19_2) 0))∧w'.cell? ad213=some (.int .i64 (rd (rd_L2 l1 x19_2) 0))∧w'.cell? ⟨go24,((rd (rd_L2 l1 x19_2) 0)).toNat,none⟩=some (.int .i64 (rd x212000_2 (rd (rd_L2 l1 x19_2) 0)))) (ds:= [19]) ⟨(blk_cell BK211.out 0).trans rfl,hx214_0,((HB.out.cell (World.block_lt_of_cell? w _ hw215_0)).trans hw215_0),((HB.out.cell (World.block_lt_of_cell? w _ hw216_0)).trans hw216_0),hx217_0⟩ (fun hHeld=> ?_);refine with_tabW spec_poFrom.tab9 spec_poFrom.bits9 (fun HT_ HW_=> ?_);generalize wr.drew=w25 at HO_212000 BK207 BK211 HB GG24 HQ27 hf24_0 hx214_0 hx215_0 hx216_0 hx217_0 hx24_0 hHeld ⊢;refine pU 0 28 ?_;refine pU 2 30 ?_;refine pU 5 33 ?_;refine pU 6 34 ?_;refine pU 9 37 ?_;refine pU 11 39 ?_;refine pU 12 40 ?_;refine take_ (i:=1) (N:=some 29) (v:= ?_) (a':= ?_) #[true,true,true,false,false,true,true,false,false,true,false,true,true,false,false,false,false,false,false,false] rfl rfl (take_ofW HT_.out HW_.out (by kernel_rfl)) (fun _ _ _ h=>h) (Or.inl ⟨by rfl,?_⟩) hHeld ?_ ?_;rotate_left
                  ·
                   rintro w' ⟨s0,s1,s2,s3,s4⟩;go_simp
                   with_reducible rfl
                  rotate_left
                  ·
                   simp only [Act.put,List.setIfInBounds_toArray,List.set_cons_zero,List.set_cons_succ,i64_w,i32_w];rfl
                  refine pU 3 31 ?_;refine take_ (i:=4) (N:=some 32) (v:= ?_) (a':= ?_) #[true,true,true,true,true,true,true,false,false,true,false,true,true,false,false,false,false,false,false,false] rfl rfl (take_ofW HT_.out HW_.out (by kernel_rfl)) (fun _ _ _ h=>h) (Or.inl ⟨by rfl,?_⟩) hHeld ?_ ?_;rotate_left
                  ·
                   rintro w' ⟨s0,s1,s2,s3,s4⟩;go_simp
                   with_reducible rfl
                  rotate_left
                  ·
                   simp only [Act.put,List.setIfInBounds_toArray,List.set_cons_zero,List.set_cons_succ,i64_w,i32_w];rfl
                  refine take_ (i:=7) (N:=some 35) (v:= ?_) (a':= ?_) #[true,true,true,true,true,true,true,true,false,true,false,true,true,false,false,false,false,false,false,false] rfl rfl (take_ofW HT_.out HW_.out (by kernel_rfl)) (fun _ _ _ h=>h) (Or.inl ⟨by rfl,?_⟩) hHeld ?_ ?_;rotate_left
                  ·
                   rintro w' ⟨s0,s1,s2,s3,s4⟩;go_simp
                   with_reducible rfl
                  rotate_left
                  ·
                   simp only [Act.put,List.setIfInBounds_toArray,List.set_cons_zero,List.set_cons_succ,i64_w,i32_w];rfl
                  refine pU 8 36 ?_;refine take_ (i:=10) (N:=some 38) (v:= ?_) (a':= ?_) #[true,true,true,true,true,true,true,true,true,true,true,true,true,false,false,false,false,false,false,false] rfl rfl (take_ofW HT_.out HW_.out (by kernel_rfl)) (fun _ _ _ h=>h) (Or.inl ⟨by rfl,?_⟩) hHeld ?_ ?_;rotate_left
                  ·
                   rintro w' ⟨s0,s1,s2,s3,s4⟩;go_simp
                   with_reducible rfl
                  rotate_left
                  ·
                   simp only [Act.put,List.setIfInBounds_toArray,List.set_cons_zero,List.set_cons_succ,i64_w,i32_w];rfl
                  refine take_ (i:=13) (N:=some 41) (v:= ?_) (a':= ?_) #[true,true,true,true,true,true,true,true,true,true,true,true,true,true,false,false,false,false,false,false] rfl rfl (take_ofW HT_.out HW_.out (by kernel_rfl)) (fun _ _ _ h=>h) (Or.inl ⟨by rfl,?_⟩) hHeld ?_ ?_;rotate_left
                  ·
                   rintro w' ⟨s0,s1,s2,s3,s4⟩;go_simp
                   with_reducible rfl
                  rotate_left
                  ·
                   simp only [Act.put,List.setIfInBounds_toArray,List.set_cons_zero,List.set_cons_succ,i64_w,i32_w];rfl
                  refine pU 14 42 ?_;refine take_ (i:=15) (N:=some 43) (v:= ?_) (a':= ?_) #[true,true,true,true,true,true,true,true,true,true,true,true,true,true,true,true,false,false,false,false] rfl rfl (take_ofW HT_.out HW_.out (by kernel_rfl)) (fun _ _ _ h=>h) (Or.inl ⟨by rfl,?_⟩) hHeld ?_ ?_;rotate_left
                  ·
                   rintro w' ⟨s0,s1,s2,s3,s4⟩;go_simp
                   with_reducible rfl
                  rotate_left
                  ·
                   simp only [Act.put,List.setIfInBounds_toArray,List.set_cons_zero,List.set_cons_succ,i64_w,i32_w];rfl
                  refine pU 16 44 ?_;refine pU 17 45 ?_;refine pU 18 46 ?_;refine lU 19 none fun K hK=> ?_
                  refine sK ?_;refine hK.out _ _ ?_;clear hK K;refine dU ?_
                  try go_wp2
                  go_roundg k2
                  case measure=>have:=HK1.out;have:=HK2.out;omega
                  case rel=>exact ⟨(wrap64 (x19_2+1)),(y218),(.slice (some ⟨go24,0,none⟩) x212000_2.length co26),(by first|rfl|(simp;done)|(simp [*];done)),H',⟨by have:=HK1.out;have:=HK2.out;omega⟩,⟨uR HQ27⟩,⟨by (with_reducible repeat (first|refine blk_drewN ?_ _|refine blk_drew ?_|refine blk_alloc ?_ _));refine blk_far ?_ (by have h_:=Kd.R_ne HO_212000.out BK207.out (by decide);intro e_;exact h_ (by rw [e_];rfl)) _;(with_reducible repeat (first|refine blk_drewN ?_ _|refine blk_drew ?_|refine blk_alloc ?_ _));exact BK207.out⟩,⟨by (with_reducible repeat (first|refine blk_drewN ?_ _|refine blk_drew ?_|refine blk_alloc ?_ _));refine blk_far ?_ (by have h_:=Kd.R_ne HO_212000.out BK211.out (by decide);intro e_;exact h_ (by rw [e_];rfl)) _;(with_reducible repeat (first|refine blk_drewN ?_ _|refine blk_drew ?_|refine blk_alloc ?_ _));exact BK211.out⟩,⟨by repeat (first|(with_reducible first|exact HB.out|apply below_alloc|apply pw_below_drewN|apply below_drew1|refine below_set ?_ GB24.out|refine below_set ?_ GE207.out|refine below_set ?_ GE211.out)|exact HB.out)⟩⟩
                 ·
                  rw [if_neg c23] at H;exact absurd H (by simp)
                ·
                 rw [if_neg c21] at H;exact absurd H (by simp)
               ·
                rw [if_neg c20] at H;exact absurd H (by simp)
              ·
               rw [if_neg c19] at H;exact absurd H (by simp)
             ·
              rw [if_neg c18] at H;exact absurd H (by simp)
            ·
             rw [if_neg c17] at H;have c17b0:((rd (rd_L2 l1 x19_2) 1)==x6_1)=false:=beq_eq_false_iff_ne.mpr c17;have c17b1:((rd (rd_L2 l1 x19_2) 1) !=x6_1)=true:=bne_iff_ne.mpr c17;have H':=Aside0.mk H;clear H;have p212:0≤(x19_2:Int):=of_decide_eq_true (by first|(with_reducible assumption)|assumption);have q212:x19_2<(l1.length:Int):=of_decide_eq_true (by first|(with_reducible assumption)|assumption);obtain ⟨ad212,A212_0,c212_0,e212,hx212_0,hl212_0,hi212_0⟩:=at_L2 HR1.out x19_2 p212 q212;cases e212;replace hx212_0:=(HB.out.cell (World.block_lt_of_cell? w _ hx212_0)).trans hx212_0;have HR212_0:=Aside0.mk hi212_0;have HC212_0:=Aside0.mk hl212_0;clear hi212_0 hl212_0;replace p212:=eq_true p212;replace q212:=eq_true q212;have p213:0≤(1:Int):=(by omega)
             have q213:1<((rd_L2 l1 x19_2).length:Int):=of_decide_eq_true (by first|(with_reducible assumption)|assumption);obtain ⟨ad213,e213,hx213_0⟩:=Kd.at_int HR212_0.out 1 p213 q213;cases e213
             (try simp only [show (1:Int).toNat=1 from rfl,Nat.reduceMul,Nat.reduceEqDiff,Go.Addr.add,↓reduceIte] at hx213_0)
             have qi213:(1<(rd_L2 l1 x19_2).length)=True:=eq_true (by omega)
             (try rw [show ((1:Int)).toNat=1 from rfl] at hx213_0)
             replace hx213_0:=(HB.out.cell (World.block_lt_of_cell? w _ hx213_0)).trans hx213_0;replace p213:=eq_true p213;replace q213:=eq_true q213;go_wp2;go_roundg k2
             case measure=>have:=HK1.out;have:=HK2.out;omega
             case rel=>exact ⟨(wrap64 (x19_2+1)),(x212000_2),(u212000),(by first|rfl|(simp;done)|(simp [*];done)),H',⟨by have:=HK1.out;have:=HK2.out;omega⟩,⟨uR HO_212000⟩,⟨uK BK207⟩,⟨uK BK211⟩,⟨uB HB⟩⟩
           ·
            rw [if_neg c16] at H;exact absurd H (by simp)
          ·
           rw [if_neg c15] at H;exact absurd H (by simp)
         ·
          rw [if_neg c14] at H;exact absurd H (by simp)
        ·
         rw [if_neg c13] at H;have c13b0:=decide_eq_false c13;clear c13;have H':=Aside0.mk H;clear H;go_wp2;go_roundg k2
         case measure=>have:=HK1.out;have:=HK2.out;omega
         case rel=>exact ⟨(wrap64 (x6_1+1)),(x212000_2),(u212000),(by first|rfl|(simp;done)|(simp [*];done)),H',⟨by have:=HK1.out;have:=HK2.out;omega⟩,⟨uR HO_212000⟩,⟨uK BK207⟩,⟨uK BK211⟩,⟨uB HB⟩⟩
     ·
      rw [if_neg c12] at H;have c12b0:=decide_eq_false c12;clear c12;obtain rfl:=Option.some.inj H;have hnb28:=NB211_207.out;have hnc28:=NB207_211.out;have hcz29_0:=bC BK211;have hfz29_0:=blk_frozen BK211.out 0;obtain ⟨Ao30,co30,eo30⟩:=Kd.R_slice HO_212000.out;subst eo30;have hcz31_0:=bC BK207;have hfz31_0:=blk_frozen BK207.out 0;go_wp2;refine bodyPost_ret (results_cell_row rfl _ _ gb207 26 #[.slice Ao30 x212000_1.length co30] (0,0) _ rfl (by (with_reducible repeat (first|refine blk_drewN ?_ _|refine blk_drew ?_|refine blk_alloc ?_ _));refine blk_put (cs:= #[.slice none 0 0]) ?_ 0 _ rfl;(with_reducible repeat (first|refine blk_drewN ?_ _|refine blk_drew ?_|refine blk_alloc ?_ _));exact BK207.out) Try.underlying26 rfl (by kernel_rfl)) rfl ?_;exact ⟨_,by first|rfl|(simp [errW_none,errW_some] <;>rfl)|(simp [*,errW_none,errW_some] <;>rfl),by (with_reducible repeat (first|apply Kd.R_alloc|apply Kd.R_drewN|apply Kd.R_drew));exact Kd.R_mono (Kd.R_far (p:=⟨gb207,0,none⟩) (Kd.R_types HO_212000.out BK207.out (by decide)) (fun _ hk=>hk.2) (.slice Ao30 x212000_1.length co30)) (fun _ hk=>trivial),by repeat (first|(with_reducible first|exact HB.out|apply below_alloc|apply pw_below_drewN|apply below_drew1|refine below_set ?_ GE207.out|refine below_set ?_ GE211.out)|exact HB.out)⟩
  ·
   rw [if_neg c4] at H;exact absurd H (by simp)
 ·
  rw [if_neg c3] at H;exact absurd H (by simp)
end Go.Proofs.Ytkgngggppcmpfaa.L
end
