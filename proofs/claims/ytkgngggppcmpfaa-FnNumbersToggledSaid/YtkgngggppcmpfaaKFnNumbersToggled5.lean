/- Laws about the given program: the law FnNumbersToggled answers true for every input that its row lets in; no condition is added to the given statement. Contracts of the Go functions that it reaches, and the plain proof over lists. -/
import Derived.Test.YtkgngggppcmpfaaWFnNumbersToggled0
import Derived.Test.YtkgngggppcmpfaaKFnNumbersToggled0
import Derived.Test.YtkgngggppcmpfaaKFnNumbersToggled1
import Derived.Test.YtkgngggppcmpfaaKFnNumbersToggled2
import Derived.Test.YtkgngggppcmpfaaKFnNumbersToggled3
import Derived.Test.YtkgngggppcmpfaaKFnNumbersToggled4
section
namespace Go.Proofs.Ytkgngggppcmpfaa.L
open Go.RowKit Go.Proofs.YtkgngggppcmpfaaW.PrintWords Go.Proofs.YtkgngggppcmpfaaW.PrintLast Go.Proofs.YtkgngggppcmpfaaW.PrintMore Go.Proofs.Ytkgngggppcmpfaa.X
attribute [local go_sem] max2_int min2_int max_two min_two max_three min_three max_four min_four
set_option linter.unusedVariables false
set_option linter.unusedSimpArgs false
def spec_ToggleNumber.f (k : Nat) (l0_0 : List Int) (l1 : List Int) (a2 : Int) (a3 : Int) : Option (List Int × Bool) := (spec_pcIs.f k l0_0 l1 a2).bind fun t453 => (if t453 = true then ((spec_tgElement.f l0_0 a3).bind fun t454 => (if t454 = true then ((spec_pcAt.f k l0_0 l1 a2 a3).bind fun t455 => (some (t455, true))) else (some (([] : List Int), false)))) else (some (([] : List Int), false)))
theorem spec_ToggleNumber.mono : ∀ a0 a1 a2 a3 k, LeO (spec_ToggleNumber.f k a0 a1 a2 a3) (spec_ToggleNumber.f (k + 1) a0 a1 a2 a3) := by
 intro a0 a1 a2 a3 k;unfold spec_ToggleNumber.f
 repeat' first
  |(with_reducible exact spec_pcAt.mono _ _ _ _ _)
  |(with_reducible exact spec_pcIs.mono _ _ _ _)
  |(with_reducible exact LeO.refl _)
  |(with_reducible exact LeO.none _)
  |(with_reducible refine LeO.ite ?_ ?_)
  |(with_reducible refine LeO.bind ?_ (fun _=> ?_))
  |exact spec_pcAt.mono _ _ _ _ _
  |exact spec_pcIs.mono _ _ _ _
  |exact LeO.none _
  |refine LeO.ite ?_ ?_
  |refine LeO.bind ?_ (fun _=> ?_)
set_option maxHeartbeats 8000000 in
set_option maxRecDepth 100000 in
theorem spec_ToggleNumber.calls (k : Nat) (A0_0 : Option Addr) (c0_0 : Nat) (l0_0 : List Int) (A1 : Option Addr) (c1 : Nat) (l1 : List Int) (a2 : Int) (a3 : Int) (r1 : List Int) (r2 : Bool) (w : World) (hr0_0 : Kd.C (Kd.int .i64) w A0_0 l0_0.length l0_0) (hc0_0 : l0_0.length ≤ c0_0) (hr1 : Kd.C (Kd.int .i64) w A1 l1.length l1) (hc1 : l1.length ≤ c1) (h : spec_ToggleNumber.f k l0_0 l1 a2 a3 = some (r1, r2)) :
 Calls Try.prog 21 #[.agg #[.slice A0_0 l0_0.length c0_0], .slice A1 l1.length c1, .int .i64 a2, .int .i64 a3] w fun e w'=> ∃ v0_:Value,e= .returned (.tuple #[v0_, .bool r2])∧Kd.R (Kd.int .i64) 3 w' w.heap.size (fun _=>True) v0_ r1∧Below w.heap.size w w':=by
 have hu26:=Try.underlying26;have HR0_0:=Aside0.mk hr0_0;have HC0_0:=Aside0.mk hc0_0;clear hr0_0 hc0_0;have HR1:=Aside0.mk hr1;have HC1:=Aside0.mk hc1;clear hr1 hc1;have HB:=Aside0.mk (Below.refl w.heap.size w);have H:((spec_pcIs.f k l0_0 l1 a2).bind fun t453=>(if t453=true then ((spec_tgElement.f l0_0 a3).bind fun t454=>(if t454=true then ((spec_pcAt.f k l0_0 l1 a2 a3).bind fun t455=>(some (t455,true))) else (some (([] :List Int),false)))) else (some (([] :List Int),false))))=some (r1,r2):=h;clear h;obtain ⟨t453,A5,H⟩:=bs H;(try dsimp only at H)
 by_cases c6:t453=true
 ·
  subst c6;rw [if_pos rfl] at H;obtain ⟨t454,A7,H⟩:=bs H;(try dsimp only at H)
  by_cases c8:t454=true
  ·
   subst c8;rw [if_pos rfl] at H;obtain ⟨t455,A9,H⟩:=bs H;(try dsimp only at H)
   simp only [Option.some.injEq,Prod.mk.injEq] at H;obtain ⟨rfl,rfl⟩:=H;go_enter Try.func21,Try.ntmps21;go_wp2_with (first|(refine bE (N:=4) (cs:= #[.slice A0_0 l0_0.length c0_0]) (t:=26) ?_;intro gb452 hg w10 hbox hb;have BK452:=Aside0.mk (hbox);have GW452:=Aside0.mk ((by rw [hg];exact (below_size (uB HB)):w.heap.size≤gb452));have GE452:=GW452;replace HB:=Aside0.mk (below_step (uB HB) hb);clear hb hbox hg;have hcz11_0:=bC BK452;have hfz11_0:=blk_frozen BK452.out 0)|(refine gA (some 13) Try.func69 #[.agg #[.slice A0_0 l0_0.length c0_0], .slice A1 l1.length c1, .int .i64 a2] ?_;(with_reducible refine (spec_pcIs.calls k _ _ l0_0 _ _ l1 a2 true _ (uD HR0_0 HB) HC0_0.out (uD HR1 HB) HC1.out A5.out).mono ?_);rintro e w12 ⟨rfl,hb⟩;refine ⟨_,rfl,?_⟩;replace BK452:=Aside0.mk (blk_below (uK BK452) hb);replace HB:=Aside0.mk (below_step (uB HB) hb);(try clear hb);have hcz13_0:=bC BK452;have hfz13_0:=blk_frozen BK452.out 0)|(go_at_call 79;(with_reducible refine (spec_tgElement.calls _ _ l0_0 a3 true _ (uD HR0_0 HB) HC0_0.out A7.out).mono ?_);rintro e w14 ⟨rfl,hb⟩;replace BK452:=Aside0.mk (blk_below (uK BK452) hb);replace HB:=Aside0.mk (below_step (uB HB) hb);(try clear hb);have hcz15_0:=bC BK452;have hfz15_0:=blk_frozen BK452.out 0)|(refine gA (some 25) Try.func80 #[.agg #[.slice A0_0 l0_0.length c0_0], .slice A1 l1.length c1, .int .i64 a2, .int .i64 a3] ?_;(with_reducible refine (spec_pcAt.calls k _ _ l0_0 _ _ l1 a2 a3 t455 _ (uD HR0_0 HB) HC0_0.out (uD HR1 HB) HC1.out A9.out).mono ?_);rintro e w16 ⟨v456,rfl,ho0,hb⟩;refine ⟨_,rfl,?_⟩;have HO457:=Aside0.mk (Kd.R_lower ho0 (below_size (uB HB)));replace BK452:=Aside0.mk (blk_below (uK BK452) hb);replace HB:=Aside0.mk (below_step (uB HB) hb);(try clear hb ho0)))
   go_ret2
   exact ⟨_,by first|rfl|(simp [errW_none,errW_some] <;>rfl)|(simp [*,errW_none,errW_some] <;>rfl),uR HO457,uB HB⟩
  ·
   replace c8:=Bool.eq_false_iff.mpr c8;subst c8;rw [if_neg (show ¬ (false=true) by decide)] at H;simp only [Option.some.injEq,Prod.mk.injEq] at H;obtain ⟨rfl,rfl⟩:=H;go_enter Try.func21,Try.ntmps21;go_wp2_with (first|(refine bE (N:=4) (cs:= #[.slice A0_0 l0_0.length c0_0]) (t:=26) ?_;intro gb452 hg w17 hbox hb;have BK452:=Aside0.mk (hbox);have GW452:=Aside0.mk ((by rw [hg];exact (below_size (uB HB)):w.heap.size≤gb452));have GE452:=GW452;replace HB:=Aside0.mk (below_step (uB HB) hb);clear hb hbox hg;have hcz18_0:=bC BK452;have hfz18_0:=blk_frozen BK452.out 0)|(refine gA (some 13) Try.func69 #[.agg #[.slice A0_0 l0_0.length c0_0], .slice A1 l1.length c1, .int .i64 a2] ?_;(with_reducible refine (spec_pcIs.calls k _ _ l0_0 _ _ l1 a2 true _ (uD HR0_0 HB) HC0_0.out (uD HR1 HB) HC1.out A5.out).mono ?_);rintro e w19 ⟨rfl,hb⟩;refine ⟨_,rfl,?_⟩;replace BK452:=Aside0.mk (blk_below (uK BK452) hb);replace HB:=Aside0.mk (below_step (uB HB) hb);(try clear hb);have hcz20_0:=bC BK452;have hfz20_0:=blk_frozen BK452.out 0)|(go_at_call 79;(with_reducible refine (spec_tgElement.calls _ _ l0_0 a3 false _ (uD HR0_0 HB) HC0_0.out A7.out).mono ?_);rintro e w21 ⟨rfl,hb⟩;replace BK452:=Aside0.mk (blk_below (uK BK452) hb);replace HB:=Aside0.mk (below_step (uB HB) hb);(try clear hb)))
   go_ret2
   exact ⟨_,by first|rfl|(simp [errW_none,errW_some] <;>rfl)|(simp [*,errW_none,errW_some] <;>rfl),by first|exact Kd.R_nil _ _ _ _ _|exact Kd.N_nil _ _ _ _ _|exact Kd.V_nil _ _ _ _ _|exact Kd.Q_nil _ _ _ _ _|exact Kd.S_nil _ _ _ _ _,uB HB⟩
 ·
  replace c6:=Bool.eq_false_iff.mpr c6;subst c6;rw [if_neg (show ¬ (false=true) by decide)] at H;simp only [Option.some.injEq,Prod.mk.injEq] at H;obtain ⟨rfl,rfl⟩:=H;go_enter Try.func21,Try.ntmps21;go_wp2_with (first|(refine bE (N:=4) (cs:= #[.slice A0_0 l0_0.length c0_0]) (t:=26) ?_;intro gb452 hg w22 hbox hb;have BK452:=Aside0.mk (hbox);have GW452:=Aside0.mk ((by rw [hg];exact (below_size (uB HB)):w.heap.size≤gb452));have GE452:=GW452;replace HB:=Aside0.mk (below_step (uB HB) hb);clear hb hbox hg;have hcz23_0:=bC BK452;have hfz23_0:=blk_frozen BK452.out 0)|(refine gA (some 13) Try.func69 #[.agg #[.slice A0_0 l0_0.length c0_0], .slice A1 l1.length c1, .int .i64 a2] ?_;(with_reducible refine (spec_pcIs.calls k _ _ l0_0 _ _ l1 a2 false _ (uD HR0_0 HB) HC0_0.out (uD HR1 HB) HC1.out A5.out).mono ?_);rintro e w24 ⟨rfl,hb⟩;refine ⟨_,rfl,?_⟩;replace BK452:=Aside0.mk (blk_below (uK BK452) hb);replace HB:=Aside0.mk (below_step (uB HB) hb);(try clear hb)))
  go_ret2
  exact ⟨_,by first|rfl|(simp [errW_none,errW_some] <;>rfl)|(simp [*,errW_none,errW_some] <;>rfl),by first|exact Kd.R_nil _ _ _ _ _|exact Kd.N_nil _ _ _ _ _|exact Kd.V_nil _ _ _ _ _|exact Kd.Q_nil _ _ _ _ _|exact Kd.S_nil _ _ _ _ _,uB HB⟩
def impl_RangeAt.f (k : Nat) (l0_0 : List Int) (l1 : List Int) (a2 : Int) (a3 : Int) : Option (Int × Int × Bool) := (impl_isArray.f k l0_0 l1 a2).bind fun t459 => (if t459 = true then ((impl_Poset_n.f l0_0).bind fun t460 => ((impl_within.f a3 0 (wrap64 (t460 - 1))).bind fun t461 => (if t461 = true then ((impl_Poset_reach.f k l0_0 l1 a2 a3).bind fun bt462 => (some (bt462.1, bt462.2, true))) else (some (0, 0, false))))) else (some (0, 0, false)))
theorem impl_RangeAt.mono : ∀ a0 a1 a2 a3 k, LeO (impl_RangeAt.f k a0 a1 a2 a3) (impl_RangeAt.f (k + 1) a0 a1 a2 a3) := by
 intro a0 a1 a2 a3 k;unfold impl_RangeAt.f
 repeat' first
  |(with_reducible exact impl_Poset_reach.mono _ _ _ _ _)
  |(with_reducible exact impl_isArray.mono _ _ _ _)
  |(with_reducible exact LeO.refl _)
  |(with_reducible exact LeO.none _)
  |(with_reducible refine LeO.ite ?_ ?_)
  |(with_reducible refine LeO.bind ?_ (fun _=> ?_))
  |exact impl_Poset_reach.mono _ _ _ _ _
  |exact impl_isArray.mono _ _ _ _
  |exact LeO.none _
  |refine LeO.ite ?_ ?_
  |refine LeO.bind ?_ (fun _=> ?_)
set_option maxHeartbeats 8000000 in
set_option maxRecDepth 100000 in
theorem impl_RangeAt.calls (k : Nat) (A0_0 : Option Addr) (c0_0 : Nat) (l0_0 : List Int) (A1 : Option Addr) (c1 : Nat) (l1 : List Int) (a2 : Int) (a3 : Int) (r1 : Int) (r2 : Int) (r3 : Bool) (w : World) (hr0_0 : Kd.C (Kd.int .i64) w A0_0 l0_0.length l0_0) (hc0_0 : l0_0.length ≤ c0_0) (hr1 : Kd.C (Kd.int .i64) w A1 l1.length l1) (hc1 : l1.length ≤ c1) (h : impl_RangeAt.f k l0_0 l1 a2 a3 = some (r1, r2, r3)) :
 Calls Try.prog 22 #[.agg #[.slice A0_0 l0_0.length c0_0], .slice A1 l1.length c1, .int .i64 a2, .int .i64 a3] w fun e w'=>e= .returned (.tuple #[.int .i64 r1, .int .i64 r2, .bool r3])∧Below w.heap.size w w':=by
 have hu26:=Try.underlying26;have HR0_0:=Aside0.mk hr0_0;have HC0_0:=Aside0.mk hc0_0;clear hr0_0 hc0_0;have HR1:=Aside0.mk hr1;have HC1:=Aside0.mk hc1;clear hr1 hc1;have HB:=Aside0.mk (Below.refl w.heap.size w);have H:((impl_isArray.f k l0_0 l1 a2).bind fun t459=>(if t459=true then ((impl_Poset_n.f l0_0).bind fun t460=>((impl_within.f a3 0 (wrap64 (t460 - 1))).bind fun t461=>(if t461=true then ((impl_Poset_reach.f k l0_0 l1 a2 a3).bind fun bt462=>(some (bt462.1,bt462.2,true))) else (some (0,0,false))))) else (some (0,0,false))))=some (r1,r2,r3):=h;clear h;obtain ⟨t459,A5,H⟩:=bs H;(try dsimp only at H)
 by_cases c6:t459=true
 ·
  subst c6;rw [if_pos rfl] at H;obtain ⟨t460,A7,H⟩:=bs H;(try dsimp only at H)
  obtain ⟨t461,A8,H⟩:=bs H;(try dsimp only at H)
  by_cases c9:t461=true
  ·
   subst c9;rw [if_pos rfl] at H;obtain ⟨⟨t462,t463⟩,A10,H⟩:=bs H;(try dsimp only at H)
   simp only [Option.some.injEq,Prod.mk.injEq] at H;obtain ⟨rfl,rfl,rfl⟩:=H;go_enter Try.func22,Try.ntmps22;go_wp2_with (first|(refine bE (N:=4) (cs:= #[.slice A0_0 l0_0.length c0_0]) (t:=26) ?_;intro gb458 hg w11 hbox hb;have BK458:=Aside0.mk (hbox);have GW458:=Aside0.mk ((by rw [hg];exact (below_size (uB HB)):w.heap.size≤gb458));have GE458:=GW458;replace HB:=Aside0.mk (below_step (uB HB) hb);clear hb hbox hg;have hcz12_0:=bC BK458;have hfz12_0:=blk_frozen BK458.out 0)|(refine gA (some 16) Try.func62 #[.agg #[.slice A0_0 l0_0.length c0_0], .slice A1 l1.length c1, .int .i64 a2] ?_;(with_reducible refine (impl_isArray.calls k _ _ l0_0 _ _ l1 a2 true _ (uD HR0_0 HB) HC0_0.out (uD HR1 HB) HC1.out A5.out).mono ?_);rintro e w13 ⟨rfl,hb⟩;refine ⟨_,rfl,?_⟩;replace BK458:=Aside0.mk (blk_below (uK BK458) hb);replace HB:=Aside0.mk (below_step (uB HB) hb);(try clear hb);have hcz14_0:=bC BK458;have hfz14_0:=blk_frozen BK458.out 0)|(go_at_call 65;(with_reducible refine (impl_Poset_n.calls _ _ l0_0 t460 _ (uD HR0_0 HB) HC0_0.out A7.out).mono ?_);rintro e w15 ⟨rfl,hb⟩;replace BK458:=Aside0.mk (blk_below (uK BK458) hb);replace HB:=Aside0.mk (below_step (uB HB) hb);(try clear hb))|(go_at_call 81;(with_reducible refine (impl_within.calls a3 0 (wrap64 (t460 - 1)) true _ A8.out).mono ?_);rintro e w' ⟨rfl,⟨nd,rfl⟩⟩;have hcz16_0:=bC BK458;have hfz16_0:=blk_frozen BK458.out 0)|(refine gA (some 31) Try.func82 #[.agg #[.slice A0_0 l0_0.length c0_0], .slice A1 l1.length c1, .int .i64 a2, .int .i64 a3] ?_;(with_reducible refine (impl_Poset_reach.calls k _ _ l0_0 _ _ l1 a2 a3 t462 t463 _ ?side1 HC0_0.out ?side3 HC1.out A10.out).mono ?_);(case side1=>repeat (first|exact (Kd.C_below HR0_0.out (uB HB))|(with_reducible refine Kd.C_alloc ?_ _)|(with_reducible refine Kd.C_drewN ?_ _)|(with_reducible refine Kd.C_drew ?_)));(case side3=>repeat (first|exact (Kd.C_below HR1.out (uB HB))|(with_reducible refine Kd.C_alloc ?_ _)|(with_reducible refine Kd.C_drewN ?_ _)|(with_reducible refine Kd.C_drew ?_)));rintro e w17 ⟨rfl,hb⟩;refine ⟨_,rfl,?_⟩;replace BK458:=Aside0.mk (blk_below (uK BK458) hb);replace HB:=Aside0.mk (below_step (uB HB) hb);(try clear hb)))
   go_ret3
   exact ⟨by first|rfl|(simp [errW_none,errW_some] <;>rfl)|(simp [*,errW_none,errW_some] <;>rfl),uB HB⟩
  ·
   replace c9:=Bool.eq_false_iff.mpr c9;subst c9;rw [if_neg (show ¬ (false=true) by decide)] at H;simp only [Option.some.injEq,Prod.mk.injEq] at H;obtain ⟨rfl,rfl,rfl⟩:=H;go_enter Try.func22,Try.ntmps22;go_wp2_with (first|(refine bE (N:=4) (cs:= #[.slice A0_0 l0_0.length c0_0]) (t:=26) ?_;intro gb458 hg w18 hbox hb;have BK458:=Aside0.mk (hbox);have GW458:=Aside0.mk ((by rw [hg];exact (below_size (uB HB)):w.heap.size≤gb458));have GE458:=GW458;replace HB:=Aside0.mk (below_step (uB HB) hb);clear hb hbox hg;have hcz19_0:=bC BK458;have hfz19_0:=blk_frozen BK458.out 0)|(refine gA (some 16) Try.func62 #[.agg #[.slice A0_0 l0_0.length c0_0], .slice A1 l1.length c1, .int .i64 a2] ?_;(with_reducible refine (impl_isArray.calls k _ _ l0_0 _ _ l1 a2 true _ (uD HR0_0 HB) HC0_0.out (uD HR1 HB) HC1.out A5.out).mono ?_);rintro e w20 ⟨rfl,hb⟩;refine ⟨_,rfl,?_⟩;replace BK458:=Aside0.mk (blk_below (uK BK458) hb);replace HB:=Aside0.mk (below_step (uB HB) hb);(try clear hb);have hcz21_0:=bC BK458;have hfz21_0:=blk_frozen BK458.out 0)|(go_at_call 65;(with_reducible refine (impl_Poset_n.calls _ _ l0_0 t460 _ (uD HR0_0 HB) HC0_0.out A7.out).mono ?_);rintro e w22 ⟨rfl,hb⟩;replace BK458:=Aside0.mk (blk_below (uK BK458) hb);replace HB:=Aside0.mk (below_step (uB HB) hb);(try clear hb))|(go_at_call 81;(with_reducible refine (impl_within.calls a3 0 (wrap64 (t460 - 1)) false _ A8.out).mono ?_);rintro e w' ⟨rfl,⟨nd,rfl⟩⟩))
   go_ret3
   exact ⟨by first|rfl|(simp [errW_none,errW_some] <;>rfl)|(simp [*,errW_none,errW_some] <;>rfl),uB HB⟩
 ·
  replace c6:=Bool.eq_false_iff.mpr c6;subst c6;rw [if_neg (show ¬ (false=true) by decide)] at H;simp only [Option.some.injEq,Prod.mk.injEq] at H;obtain ⟨rfl,rfl,rfl⟩:=H;go_enter Try.func22,Try.ntmps22;go_wp2_with (first|(refine bE (N:=4) (cs:= #[.slice A0_0 l0_0.length c0_0]) (t:=26) ?_;intro gb458 hg w23 hbox hb;have BK458:=Aside0.mk (hbox);have GW458:=Aside0.mk ((by rw [hg];exact (below_size (uB HB)):w.heap.size≤gb458));have GE458:=GW458;replace HB:=Aside0.mk (below_step (uB HB) hb);clear hb hbox hg;have hcz24_0:=bC BK458;have hfz24_0:=blk_frozen BK458.out 0)|(refine gA (some 16) Try.func62 #[.agg #[.slice A0_0 l0_0.length c0_0], .slice A1 l1.length c1, .int .i64 a2] ?_;(with_reducible refine (impl_isArray.calls k _ _ l0_0 _ _ l1 a2 false _ (uD HR0_0 HB) HC0_0.out (uD HR1 HB) HC1.out A5.out).mono ?_);rintro e w25 ⟨rfl,hb⟩;refine ⟨_,rfl,?_⟩;replace BK458:=Aside0.mk (blk_below (uK BK458) hb);replace HB:=Aside0.mk (below_step (uB HB) hb);(try clear hb)))
  go_ret3
  exact ⟨by first|rfl|(simp [errW_none,errW_some] <;>rfl)|(simp [*,errW_none,errW_some] <;>rfl),uB HB⟩
def spec_RangeAt.f (k : Nat) (l0_0 : List Int) (l1 : List Int) (a2 : Int) (a3 : Int) : Option (Int × Int × Bool) := (spec_pcIs.f k l0_0 l1 a2).bind fun t465 => (if t465 = true then ((spec_tgElement.f l0_0 a3).bind fun t466 => (if t466 = true then ((spec_pcRange.f k l0_0 l1 a2 a3).bind fun bt467 => (some (bt467.1, bt467.2, true))) else (some (0, 0, false)))) else (some (0, 0, false)))
theorem spec_RangeAt.mono : ∀ a0 a1 a2 a3 k, LeO (spec_RangeAt.f k a0 a1 a2 a3) (spec_RangeAt.f (k + 1) a0 a1 a2 a3) := by
 intro a0 a1 a2 a3 k;unfold spec_RangeAt.f
 repeat' first
  |(with_reducible exact spec_pcIs.mono _ _ _ _)
  |(with_reducible exact spec_pcRange.mono _ _ _ _ _)
  |(with_reducible exact LeO.refl _)
  |(with_reducible exact LeO.none _)
  |(with_reducible refine LeO.ite ?_ ?_)
  |(with_reducible refine LeO.bind ?_ (fun _=> ?_))
  |exact spec_pcIs.mono _ _ _ _
  |exact spec_pcRange.mono _ _ _ _ _
  |exact LeO.none _
  |refine LeO.ite ?_ ?_
  |refine LeO.bind ?_ (fun _=> ?_)
set_option maxHeartbeats 8000000 in
set_option maxRecDepth 100000 in
theorem spec_RangeAt.calls (k : Nat) (A0_0 : Option Addr) (c0_0 : Nat) (l0_0 : List Int) (A1 : Option Addr) (c1 : Nat) (l1 : List Int) (a2 : Int) (a3 : Int) (r1 : Int) (r2 : Int) (r3 : Bool) (w : World) (hr0_0 : Kd.C (Kd.int .i64) w A0_0 l0_0.length l0_0) (hc0_0 : l0_0.length ≤ c0_0) (hr1 : Kd.C (Kd.int .i64) w A1 l1.length l1) (hc1 : l1.length ≤ c1) (h : spec_RangeAt.f k l0_0 l1 a2 a3 = some (r1, r2, r3)) :
 Calls Try.prog 23 #[.agg #[.slice A0_0 l0_0.length c0_0], .slice A1 l1.length c1, .int .i64 a2, .int .i64 a3] w fun e w'=>e= .returned (.tuple #[.int .i64 r1, .int .i64 r2, .bool r3])∧Below w.heap.size w w':=by
 have hu26:=Try.underlying26;have HR0_0:=Aside0.mk hr0_0;have HC0_0:=Aside0.mk hc0_0;clear hr0_0 hc0_0;have HR1:=Aside0.mk hr1;have HC1:=Aside0.mk hc1;clear hr1 hc1;have HB:=Aside0.mk (Below.refl w.heap.size w);have H:((spec_pcIs.f k l0_0 l1 a2).bind fun t465=>(if t465=true then ((spec_tgElement.f l0_0 a3).bind fun t466=>(if t466=true then ((spec_pcRange.f k l0_0 l1 a2 a3).bind fun bt467=>(some (bt467.1,bt467.2,true))) else (some (0,0,false)))) else (some (0,0,false))))=some (r1,r2,r3):=h;clear h;obtain ⟨t465,A5,H⟩:=bs H;(try dsimp only at H)
 by_cases c6:t465=true
 ·
  subst c6;rw [if_pos rfl] at H;obtain ⟨t466,A7,H⟩:=bs H;(try dsimp only at H)
  by_cases c8:t466=true
  ·
   subst c8;rw [if_pos rfl] at H;obtain ⟨⟨t467,t468⟩,A9,H⟩:=bs H;(try dsimp only at H)
   simp only [Option.some.injEq,Prod.mk.injEq] at H;obtain ⟨rfl,rfl,rfl⟩:=H;go_enter Try.func23,Try.ntmps23;go_wp2_with (first|(refine bE (N:=4) (cs:= #[.slice A0_0 l0_0.length c0_0]) (t:=26) ?_;intro gb464 hg w10 hbox hb;have BK464:=Aside0.mk (hbox);have GW464:=Aside0.mk ((by rw [hg];exact (below_size (uB HB)):w.heap.size≤gb464));have GE464:=GW464;replace HB:=Aside0.mk (below_step (uB HB) hb);clear hb hbox hg;have hcz11_0:=bC BK464;have hfz11_0:=blk_frozen BK464.out 0)|(refine gA (some 16) Try.func69 #[.agg #[.slice A0_0 l0_0.length c0_0], .slice A1 l1.length c1, .int .i64 a2] ?_;(with_reducible refine (spec_pcIs.calls k _ _ l0_0 _ _ l1 a2 true _ (uD HR0_0 HB) HC0_0.out (uD HR1 HB) HC1.out A5.out).mono ?_);rintro e w12 ⟨rfl,hb⟩;refine ⟨_,rfl,?_⟩;replace BK464:=Aside0.mk (blk_below (uK BK464) hb);replace HB:=Aside0.mk (below_step (uB HB) hb);(try clear hb);have hcz13_0:=bC BK464;have hfz13_0:=blk_frozen BK464.out 0)|(go_at_call 79;(with_reducible refine (spec_tgElement.calls _ _ l0_0 a3 true _ (uD HR0_0 HB) HC0_0.out A7.out).mono ?_);rintro e w14 ⟨rfl,hb⟩;replace BK464:=Aside0.mk (blk_below (uK BK464) hb);replace HB:=Aside0.mk (below_step (uB HB) hb);(try clear hb);have hcz15_0:=bC BK464;have hfz15_0:=blk_frozen BK464.out 0)|(refine gA (some 29) Try.func83 #[.agg #[.slice A0_0 l0_0.length c0_0], .slice A1 l1.length c1, .int .i64 a2, .int .i64 a3] ?_;(with_reducible refine (spec_pcRange.calls k _ _ l0_0 _ _ l1 a2 a3 t467 t468 _ (uD HR0_0 HB) HC0_0.out (uD HR1 HB) HC1.out A9.out).mono ?_);rintro e w16 ⟨rfl,hb⟩;refine ⟨_,rfl,?_⟩;replace BK464:=Aside0.mk (blk_below (uK BK464) hb);replace HB:=Aside0.mk (below_step (uB HB) hb);(try clear hb)))
   go_ret3
   exact ⟨by first|rfl|(simp [errW_none,errW_some] <;>rfl)|(simp [*,errW_none,errW_some] <;>rfl),uB HB⟩
  ·
   replace c8:=Bool.eq_false_iff.mpr c8;subst c8;rw [if_neg (show ¬ (false=true) by decide)] at H;simp only [Option.some.injEq,Prod.mk.injEq] at H;obtain ⟨rfl,rfl,rfl⟩:=H;go_enter Try.func23,Try.ntmps23;go_wp2_with (first|(refine bE (N:=4) (cs:= #[.slice A0_0 l0_0.length c0_0]) (t:=26) ?_;intro gb464 hg w17 hbox hb;have BK464:=Aside0.mk (hbox);have GW464:=Aside0.mk ((by rw [hg];exact (below_size (uB HB)):w.heap.size≤gb464));have GE464:=GW464;replace HB:=Aside0.mk (below_step (uB HB) hb);clear hb hbox hg;have hcz18_0:=bC BK464;have hfz18_0:=blk_frozen BK464.out 0)|(refine gA (some 16) Try.func69 #[.agg #[.slice A0_0 l0_0.length c0_0], .slice A1 l1.length c1, .int .i64 a2] ?_;(with_reducible refine (spec_pcIs.calls k _ _ l0_0 _ _ l1 a2 true _ (uD HR0_0 HB) HC0_0.out (uD HR1 HB) HC1.out A5.out).mono ?_);rintro e w19 ⟨rfl,hb⟩;refine ⟨_,rfl,?_⟩;replace BK464:=Aside0.mk (blk_below (uK BK464) hb);replace HB:=Aside0.mk (below_step (uB HB) hb);(try clear hb);have hcz20_0:=bC BK464;have hfz20_0:=blk_frozen BK464.out 0)|(go_at_call 79;(with_reducible refine (spec_tgElement.calls _ _ l0_0 a3 false _ (uD HR0_0 HB) HC0_0.out A7.out).mono ?_);rintro e w21 ⟨rfl,hb⟩;replace BK464:=Aside0.mk (blk_below (uK BK464) hb);replace HB:=Aside0.mk (below_step (uB HB) hb);(try clear hb)))
   go_ret3
   exact ⟨by first|rfl|(simp [errW_none,errW_some] <;>rfl)|(simp [*,errW_none,errW_some] <;>rfl),uB HB⟩
 ·
  replace c6:=Bool.eq_false_iff.mpr c6;subst c6;rw [if_neg (show ¬ (false=true) by decide)] at H;simp only [Option.some.injEq,Prod.mk.injEq] at H;obtain ⟨rfl,rfl,rfl⟩:=H;go_enter Try.func23,Try.ntmps23;go_wp2_with (first|(refine bE (N:=4) (cs:= #[.slice A0_0 l0_0.length c0_0]) (t:=26) ?_;intro gb464 hg w22 hbox hb;have BK464:=Aside0.mk (hbox);have GW464:=Aside0.mk ((by rw [hg];exact (below_size (uB HB)):w.heap.size≤gb464));have GE464:=GW464;replace HB:=Aside0.mk (below_step (uB HB) hb);clear hb hbox hg;have hcz23_0:=bC BK464;have hfz23_0:=blk_frozen BK464.out 0)|(refine gA (some 16) Try.func69 #[.agg #[.slice A0_0 l0_0.length c0_0], .slice A1 l1.length c1, .int .i64 a2] ?_;(with_reducible refine (spec_pcIs.calls k _ _ l0_0 _ _ l1 a2 false _ (uD HR0_0 HB) HC0_0.out (uD HR1 HB) HC1.out A5.out).mono ?_);rintro e w24 ⟨rfl,hb⟩;refine ⟨_,rfl,?_⟩;replace BK464:=Aside0.mk (blk_below (uK BK464) hb);replace HB:=Aside0.mk (below_step (uB HB) hb);(try clear hb)))
  go_ret3
  exact ⟨by first|rfl|(simp [errW_none,errW_some] <;>rfl)|(simp [*,errW_none,errW_some] <;>rfl),uB HB⟩
mutual
def spec_l1Cur_word2.l0 : Nat → List Int → Int → List Int → Int → Int → List Int → Option (List Int × Int × Int)
 |0,_,_,_,_,_,_=>none
 |k+1,x5,x6,x1000,x1001,x1002,x470000=>if x6>0 then ((spec_l1Most.f 1 (x470000.length:Int)).bind fun t476=>((spec_l1Cur_pick.f x1000 x1001 x1002 t476).bind fun bt477=>(if x5.length<17592186044416 then (spec_l1Cur_word2.l0 k (x5++ [bt477.1]) (wrap64 (x6 - 1)) x1000 bt477.2.1 bt477.2.2 x470000) else (none)))) else ((spec_l1Cur_pick.f x1000 x1001 x1002 20).bind fun bt483=>(if bt483.1=0 then ((spec_l1Cur_among.f x1000 bt483.2.1 bt483.2.2 (([(-1),10,4611686018427387904] :List Int))).bind fun bt489=>(if x5.length<17592186044416 then (some ((x5++ [bt489.1]),bt489.2.1,bt489.2.2)) else (none))) else (if bt483.1=1 then (spec_l1Cur_word2.l1 k x5 x1000 bt483.2.1 bt483.2.2) else (some (x5,bt483.2.1,bt483.2.2)))))
def spec_l1Cur_word2.l1 : Nat → List Int → List Int → Int → Int → Option (List Int × Int × Int)
 |0,_,_,_,_=>none
 |k+1,x5,x1000,x1001,x1002=>(spec_l1Cur_pick.f x1000 x1001 x1002 2).bind fun bt495=>(if (x5.length:Int)<(wrap64 (100+bt495.1)) then (if x5.length<17592186044416 then (spec_l1Cur_word2.l1 k (x5++ [0]) x1000 bt495.2.1 bt495.2.2) else (none)) else (some (x5,bt495.2.1,bt495.2.2)))
end
def spec_l1Cur_word2.f (k : Nat) (s0_0 : List Int) (s0_1 : Int) (s0_2 : Int) (l1_0 : List Int) : Option (List Int × Int × Int) := (spec_l1Cur_among.f s0_0 s0_1 s0_2 (([0, 1, 2, 4, 10] : List Int))).bind fun bt473 => (spec_l1Cur_word2.l0 k ([] : List Int) bt473.1 s0_0 bt473.2.1 bt473.2.2 l1_0)
theorem spec_l1Cur_word2.mono_l : ∀ k, (∀ y0 y1 y2 y3 y4 y5, LeO (spec_l1Cur_word2.l0 k y0 y1 y2 y3 y4 y5) (spec_l1Cur_word2.l0 (k + 1) y0 y1 y2 y3 y4 y5)) ∧ (∀ y0 y1 y2 y3, LeO (spec_l1Cur_word2.l1 k y0 y1 y2 y3) (spec_l1Cur_word2.l1 (k + 1) y0 y1 y2 y3))
 |0=>⟨fun _ _ _ _ _ _ r h=>by simp [spec_l1Cur_word2.l0] at h,fun _ _ _ _ r h=>by simp [spec_l1Cur_word2.l1] at h⟩
 |k+1=>by
  obtain ⟨ih0,ih1⟩:=spec_l1Cur_word2.mono_l k;refine ⟨?_,?_⟩
  ·
   intro y0 y1 y2 y3 y4 y5;unfold spec_l1Cur_word2.l0
   repeat' first
   |(with_reducible exact ih0 _ _ _ _ _ _)
   |(with_reducible exact ih1 _ _ _ _)
   |(with_reducible exact LeO.refl _)
   |(with_reducible exact LeO.none _)
   |(with_reducible refine LeO.ite ?_ ?_)
   |(with_reducible refine LeO.bind ?_ (fun _=> ?_))
   |exact ih0 _ _ _ _ _ _
   |exact ih1 _ _ _ _
   |exact LeO.none _
   |refine LeO.ite ?_ ?_
   |refine LeO.bind ?_ (fun _=> ?_)
  ·
   intro y0 y1 y2 y3;unfold spec_l1Cur_word2.l1
   repeat' first
   |(with_reducible exact ih0 _ _ _ _ _ _)
   |(with_reducible exact ih1 _ _ _ _)
   |(with_reducible exact LeO.refl _)
   |(with_reducible exact LeO.none _)
   |(with_reducible refine LeO.ite ?_ ?_)
   |(with_reducible refine LeO.bind ?_ (fun _=> ?_))
   |exact ih0 _ _ _ _ _ _
   |exact ih1 _ _ _ _
   |exact LeO.none _
   |refine LeO.ite ?_ ?_
   |refine LeO.bind ?_ (fun _=> ?_)
theorem spec_l1Cur_word2.mono : ∀ a0 a1 a2 a3 k, LeO (spec_l1Cur_word2.f k a0 a1 a2 a3) (spec_l1Cur_word2.f (k + 1) a0 a1 a2 a3) := by
 intro a0 a1 a2 a3 k;obtain ⟨ih0,ih1⟩:=spec_l1Cur_word2.mono_l k;unfold spec_l1Cur_word2.f
 repeat' first
  |(with_reducible exact ih0 _ _ _ _ _ _)
  |(with_reducible exact ih1 _ _ _ _)
  |(with_reducible exact LeO.refl _)
  |(with_reducible exact LeO.none _)
  |(with_reducible refine LeO.ite ?_ ?_)
  |(with_reducible refine LeO.bind ?_ (fun _=> ?_))
  |exact ih0 _ _ _ _ _ _
  |exact ih1 _ _ _ _
  |exact LeO.none _
  |refine LeO.ite ?_ ?_
  |refine LeO.bind ?_ (fun _=> ?_)
set_option maxHeartbeats 8000000 in
set_option maxRecDepth 100000 in
theorem spec_l1Cur_word2.calls (k : Nat) (g : Nat) (s0_0 : List Int) (s0_1 : Int) (s0_2 : Int) (A1_0 : Option Addr) (c1_0 : Nat) (l1_0 : List Int) (r1 : List Int) (r2 : Int) (r3 : Int) (w0 w : World) (hI : IsS67 w0 w g s0_0 s0_1 s0_2) (hB : Below w0.heap.size w0 w) (hr1_0 : Kd.C (Kd.int .i64) w A1_0 l1_0.length l1_0) (hc1_0 : l1_0.length ≤ c1_0) (hf1_0 : ∀ ad, A1_0 = some ad → 0 < l1_0.length → ad.block ≠ g) (h : spec_l1Cur_word2.f k s0_0 s0_1 s0_2 l1_0 = some (r1, r2, r3)) :
 Calls Try.prog 84 #[.pointer (some ⟨g,0,none⟩), .agg #[.slice A1_0 l1_0.length c1_0]] w fun e w'=> ∃ v0_:Value,e= .returned (v0_)∧Kd.R (Kd.int .i64) 3 w' w.heap.size (fun _=>True) v0_ r1∧IsS67 w0 w' g s0_0 r2 r3∧Below w0.heap.size w0 w'∧KeepBut w w' g none:=by
 have hu26:=Try.underlying26;have HR1_0:=Aside0.mk hr1_0;have HC1_0:=Aside0.mk hc1_0;clear hr1_0 hc1_0;have HI0:=Aside0.mk hI;have HK:=Aside0.mk (KeepBut.refl w g none);have HL:=Aside0.mk hB.size;clear hI;have HW0:=Aside0.mk hB.size;have HB:=Aside0.mk hB;clear hB;have H:((spec_l1Cur_among.f s0_0 s0_1 s0_2 (([0,1,2,4,10] :List Int))).bind fun bt473=>(spec_l1Cur_word2.l0 k ([] :List Int) bt473.1 s0_0 bt473.2.1 bt473.2.2 l1_0))=some (r1,r2,r3):=h;clear h;obtain ⟨y470,hy470⟩: ∃ y_:List Int,y_=(([0,1,2,4,10] :List Int)):=⟨_,rfl⟩
 replace H:((spec_l1Cur_among.f s0_0 s0_1 s0_2 y470).bind fun bt473=>(spec_l1Cur_word2.l0 k ([] :List Int) bt473.1 s0_0 bt473.2.1 bt473.2.2 l1_0))=some (r1,r2,r3):=by first|(rw [hy470];with_reducible exact H)|(have H2_:=(Option.bind_some _ _).symm.trans H;rw [hy470];with_reducible exact H2_)|(have H2_:=(Option.bind_some _ _).symm.trans H;with_reducible exact H2_)|with_reducible exact H|(rw [hy470];exact H)|exact H
 have Ny470:=Aside0.mk hy470;clear hy470;obtain ⟨⟨t473,t474,t475⟩,A3,H⟩:=bs H;(try dsimp only at H)
 have H':=Aside0.mk H;clear H;go_enter Try.func84,Try.ntmps84;go_wp2_with (first|(refine bE (N:=3) (cs:= #[.slice A1_0 l1_0.length c1_0]) (t:=26) ?_;intro gb469 hg w4 hbox hb;replace HB:=Aside0.mk (below_step (uB HB) hb);have BK469:=Aside0.mk (hbox);have GW469:=Aside0.mk ((by rw [hg];exact (keep_size (w:=w) (g:=g) (row:=none) (uP HK)):w.heap.size≤gb469));have GE469:=Aside0.mk ((Nat.le_trans HW0.out (by rw [hg];exact (keep_size (w:=w) (g:=g) (row:=none) (uP HK)):w.heap.size≤gb469):w0.heap.size≤gb469));replace HK:=Aside0.mk (KeepBut.trans (uP HK) (KeepBut.of_below hb g none) (.inl rfl));have NB0_469:=Aside0.mk ((by rw [hg];exact Nat.ne_of_lt (IsS67.lt (show IsS67 w0 _ g s0_0 s0_1 s0_2 from IsS67.u HI0)):g≠gb469));have NB469_0:=Aside0.mk ((by rw [hg];exact Nat.ne_of_gt (IsS67.lt (show IsS67 w0 _ g s0_0 s0_1 s0_2 from IsS67.u HI0)):gb469≠g));replace HI0:=Aside0.mk (IsS67.below (IsS67.u HI0) hb);clear hb hbox hg)|((with_reducible refine gate_dst (N:=8) rfl ?_);refine Kd.R_lit (Kd.int .i64) _ 3 ?hg (N:=8) ?hd (xs:=([0,1,2,4,10] :List Int)) (inner:= [.int .i64 0, .int .i64 1, .int .i64 2, .int .i64 4, .int .i64 10]) (ok:=fun _=>True) (okp:=fun _=>True) ?hr ?hp (fun _ hk=>hk) trivial (Below.refl _ _) (Nat.le_refl _) (by simp) ?_;(case hd=>rfl);(case hg=>rfl);(case hr=>first|(go_simp;done)|(go_simp;rfl));(case hp=>exact (Reps.one (show Kd.M (Kd.int .i64) _ _ _ 0 [.int .i64 0] from rfl) (Reps.one (show Kd.M (Kd.int .i64) _ _ _ 1 [.int .i64 1] from rfl) (Reps.one (show Kd.M (Kd.int .i64) _ _ _ 2 [.int .i64 2] from rfl) (Reps.one (show Kd.M (Kd.int .i64) _ _ _ 4 [.int .i64 4] from rfl) (Reps.one (show Kd.M (Kd.int .i64) _ _ _ 10 [.int .i64 10] from rfl) (Reps.none _ _)))))));intro v471 w5 ho6 hb hg_ hnew_;clear hg_ hnew_;(first|rw [←Ny470.out] at ho6|(simp only [Int.reduceToNat] at ho6;rw [←Ny470.out] at ho6));have HO472:=Aside0.mk (Kd.R_lower ho6 (keep_size (w:=w) (g:=g) (row:=none) (uP HK)));replace HI0:=Aside0.mk (IsS67.below (IsS67.u HI0) hb);replace BK469:=Aside0.mk (blk_below (uK BK469) hb);replace HK:=Aside0.mk (KeepBut.trans (uP HK) (KeepBut.of_below hb g none) (.inl rfl));replace HB:=Aside0.mk (below_step (uB HB) hb);clear hb ho6;obtain ⟨Ao7,co7,eo7⟩:=Kd.R_slice HO472.out;subst eo7)|(refine gA (some 9) Try.func94 #[.pointer (some ⟨g,0,none⟩), .slice Ao7 y470.length co7] ?_;(with_reducible refine (spec_l1Cur_among.calls g s0_0 s0_1 s0_2 _ _ y470 t473 t474 t475 w0 _ (IsS67.u HI0) (uB HB) (uE HO472) ?side4 ?side5 A3.out).mono ?_);(case side4=>exact (Kd.R_reads' HO472.out).2.1);(case side5=>exact far_slice (IsS67.own_ne HI0.out HO472.out (by decide)));rintro e w8 ⟨rfl,hi,hb,hk⟩;refine ⟨_,rfl,?_⟩;replace BK469:=Aside0.mk (KeepBut.blk hk (g':=gb469) (o:= .cells #[.slice A1_0 l1_0.length c1_0] 26 (0,0)) (uK BK469) NB469_0.out (by simp));replace HO472:=Aside0.mk (Kd.R_mono (Kd.R_keep (IsS67.apart (show IsS67 w0 _ g s0_0 s0_1 s0_2 from IsS67.u HI0) (uR HO472) (by decide)) hk (fun _ h=>h.2)) (fun _ h=>h.1));replace HK:=Aside0.mk (KeepBut.trans (uP HK) hk (.inl rfl));replace HB:=Aside0.mk (hb);replace HI0:=Aside0.mk (hi);(try clear hb hk hi)))
 go_loopg [5,6] k (fun kq v5 v6 w'=> ∃ (x5_1:List Int) (x6_1:Int) (x1001_1:Int) (x1002_1:Int),v6= .int .i64 x6_1∧Aside0 (spec_l1Cur_word2.l0 kq x5_1 x6_1 s0_0 x1001_1 x1002_1 l1_0=some (r1,r2,r3))∧Aside0 (kq≤k)∧Aside0 (Kd.R (Kd.int .i64) 3 w' w.heap.size (fun _=>True) v5 x5_1)∧Aside0 (w'.heap[gb469]? =some (.cells #[(.slice A1_0 l1_0.length c1_0)] 26 (0,0)))∧Aside0 (IsS67 w0 w' g s0_0 x1001_1 x1002_1)∧Aside0 (KeepBut w w' g none)∧Aside0 (Below w0.heap.size w0 w'))
 case atStart=>exact ⟨(([] :List Int)),(t473),(t474),(t475),(by first|rfl|(simp;done)|(simp [*];done)),H',⟨Nat.le_refl _⟩,⟨by first|exact Kd.R_nil _ _ _ _ _|exact Kd.N_nil _ _ _ _ _|exact Kd.V_nil _ _ _ _ _|exact Kd.Q_nil _ _ _ _ _|exact Kd.S_nil _ _ _ _ _⟩,⟨uK BK469⟩,⟨IsS67.u HI0⟩,⟨uP HK⟩,⟨uB HB⟩⟩
 case round=>
  clear H'
  try clear c1
  try clear p2
  try clear c8
  obtain ⟨x5_1,x6_1,x1001_1,x1002_1,rfl,HA,HK1,HO_5,BK469,HI0,HK,HB⟩:=hrel;cases gk with
  |zero=>exact absurd HA.out (by simp [spec_l1Cur_word2.l0])
  |succ k1=>
   have H:=HA.out;clear HA;simp only [spec_l1Cur_word2.l0] at H
   by_cases c9:x6_1>0
   ·
    rw [if_pos c9] at H;have c9b0:=decide_eq_true c9;clear c9;obtain ⟨t476,A10,H⟩:=bs H;(try dsimp only at H)
    obtain ⟨⟨t477,t478,t479⟩,A11,H⟩:=bs H;(try dsimp only at H)
    by_cases c12:x5_1.length<17592186044416
    ·
     rw [if_pos c12] at H;have LMc12:=Aside0.mk c12;clear c12;obtain ⟨y480,hy480⟩: ∃ y_:List Int,y_=(x5_1++ [t477]):=⟨_,rfl⟩
     replace H:(spec_l1Cur_word2.l0 k1 y480 (wrap64 (x6_1 - 1)) s0_0 t478 t479 l1_0)=some (r1,r2,r3):=by first|(rw [hy480];with_reducible exact H)|(have H2_:=(Option.bind_some _ _).symm.trans H;rw [hy480];with_reducible exact H2_)|(have H2_:=(Option.bind_some _ _).symm.trans H;with_reducible exact H2_)|with_reducible exact H|(rw [hy480];exact H)|exact H
     have Ny480:=Aside0.mk hy480;clear hy480;have H':=Aside0.mk H;clear H;have hnb13:=NB469_0.out;have hnc13:=NB0_469.out;have hcz14_0:=bC BK469;have hfz14_0:=blk_frozen BK469.out 0;go_wp2_with (first|(refine gA (some 19) Try.func60 #[.int .i64 1, .int .i64 (l1_0.length:Int)] ?_;(with_reducible refine (spec_l1Most.calls 1 (l1_0.length:Int) t476 _ A10.out).mono ?_);rintro e w' ⟨rfl,⟨nd,rfl⟩⟩;refine ⟨_,rfl,?_⟩)|(refine gA (some 20) Try.func58 #[.pointer (some ⟨g,0,none⟩), .int .i64 t476] ?_;(with_reducible refine (spec_l1Cur_pick.calls g s0_0 x1001_1 x1002_1 t476 t477 t478 t479 w0 _ (IsS67.u HI0) (uB HB) A11.out).mono ?_);rintro e w15 ⟨rfl,hi,hb,hk⟩;refine ⟨_,rfl,?_⟩;replace HO_5:=Aside0.mk (Kd.R_mono (Kd.R_keep (IsS67.apart (show IsS67 w0 _ g s0_0 x1001_1 x1002_1 from IsS67.u HI0) (uR HO_5) (by decide)) hk (fun _ h=>h.2)) (fun _ h=>h.1));replace BK469:=Aside0.mk (KeepBut.blk hk (g':=gb469) (o:= .cells #[.slice A1_0 l1_0.length c1_0] 26 (0,0)) (uK BK469) NB469_0.out (by simp));replace HK:=Aside0.mk (KeepBut.trans (uP HK) hk (.inl rfl));replace HB:=Aside0.mk (hb);replace HI0:=Aside0.mk (hi);(try clear hb hk hi))|((with_reducible refine gate_builtin (b:= .append) (xs:= #[.tmp 14, .tmp 21]) rfl ?_);at_builtin;refine Kd.R_append (Kd.int .i64) w.heap.size rfl (.tmp 14) (.tmp 21) 24 3 (.int .i64 0) 8 rfl Try.underlying24 info3 rfl (by decide) (by omega) u5 x5_1 t477 [.int .i64 t477] (fun _=>True) (fun _=>False) rfl rfl ?aP (fun _ hk=>hk.elim) ?aF ?aO (Below.refl _ _) ?aS ?aL ?_;(case aP=>exact rfl);(case aF=>exact (fun _ _=>trivial));(case aO=>exact (uR HO_5));(case aS=>exact (keep_size (w:=w) (g:=g) (row:=none) (uP HK)));(case aL=>have:=LMc12.out;omega);intro v481 w16 ho hb hg hat;rw [←Ny480.out] at ho;replace BK469:=Aside0.mk (blk_grown (uK BK469) hg (Kd.R_ne HO_5.out BK469.out (by decide)));replace HI0:=Aside0.mk (IsS67.grown (IsS67.u HI0) hg (IsS67.own_ne HI0.out HO_5.out (by decide)));replace HB:=Aside0.mk (below_weaken (uB HB) HL.out hb);replace HK:=Aside0.mk (KeepBut.trans (uP HK) (KeepBut.of_grown hg g) (Kd.R_base2 HO_5.out));have HO482:=Aside0.mk (ho);clear HO_5;clear ho hb hg hat));go_roundg k1
     case measure=>have:=HK1.out;omega
     case rel=>exact ⟨(y480),(wrap64 (x6_1 - 1)),(t478),(t479),(by first|rfl|(simp;done)|(simp [*];done)),H',⟨by have:=HK1.out;omega⟩,⟨uR HO482⟩,⟨uK BK469⟩,⟨IsS67.u HI0⟩,⟨uP HK⟩,⟨uB HB⟩⟩
    ·
     rw [if_neg c12] at H;exact absurd H (by simp)
   ·
    rw [if_neg c9] at H;have c9b0:=decide_eq_false c9;clear c9;obtain ⟨⟨t483,t484,t485⟩,A17,H⟩:=bs H;(try dsimp only at H)
    by_cases c18:t483=0
    ·
     rw [if_pos c18] at H;have c18b0:(t483==0)=true:=beq_iff_eq.mpr c18;have c18b1:(t483 !=0)=false:=bne_eq_false_iff_eq.mpr c18;clear c18;obtain ⟨y486,hy486⟩: ∃ y_:List Int,y_=(([(-1),10,4611686018427387904] :List Int)):=⟨_,rfl⟩
     replace H:((spec_l1Cur_among.f s0_0 t484 t485 y486).bind fun bt489=>(if x5_1.length<17592186044416 then (some ((x5_1++ [bt489.1]),bt489.2.1,bt489.2.2)) else (none)))=some (r1,r2,r3):=by first|(rw [hy486];with_reducible exact H)|(have H2_:=(Option.bind_some _ _).symm.trans H;rw [hy486];with_reducible exact H2_)|(have H2_:=(Option.bind_some _ _).symm.trans H;with_reducible exact H2_)|with_reducible exact H|(rw [hy486];exact H)|exact H
     have Ny486:=Aside0.mk hy486;clear hy486;obtain ⟨⟨t489,t490,t491⟩,A19,H⟩:=bs H;(try dsimp only at H)
     by_cases c20:x5_1.length<17592186044416
     ·
      rw [if_pos c20] at H;have LMc20:=Aside0.mk c20;clear c20;obtain ⟨y492,hy492⟩: ∃ y_:List Int,y_=(x5_1++ [t489]):=⟨_,rfl⟩
      replace H:(some (y492,t490,t491))=some (r1,r2,r3):=by first|(rw [hy492];with_reducible exact H)|(have H2_:=(Option.bind_some _ _).symm.trans H;rw [hy492];with_reducible exact H2_)|(have H2_:=(Option.bind_some _ _).symm.trans H;with_reducible exact H2_)|with_reducible exact H|(rw [hy492];exact H)|exact H
      have Ny492:=Aside0.mk hy492;clear hy492;simp only [Option.some.injEq,Prod.mk.injEq] at H;obtain ⟨rfl,rfl,rfl⟩:=H;go_wp2_with (first|(refine gA (some 24) Try.func58 #[.pointer (some ⟨g,0,none⟩), .int .i64 20] ?_;(with_reducible refine (spec_l1Cur_pick.calls g s0_0 x1001_1 x1002_1 20 t483 t484 t485 w0 _ (IsS67.u HI0) (uB HB) A17.out).mono ?_);rintro e w21 ⟨rfl,hi,hb,hk⟩;refine ⟨_,rfl,?_⟩;replace HO_5:=Aside0.mk (Kd.R_mono (Kd.R_keep (IsS67.apart (show IsS67 w0 _ g s0_0 x1001_1 x1002_1 from IsS67.u HI0) (uR HO_5) (by decide)) hk (fun _ h=>h.2)) (fun _ h=>h.1));replace BK469:=Aside0.mk (KeepBut.blk hk (g':=gb469) (o:= .cells #[.slice A1_0 l1_0.length c1_0] 26 (0,0)) (uK BK469) NB469_0.out (by simp));replace HK:=Aside0.mk (KeepBut.trans (uP HK) hk (.inl rfl));replace HB:=Aside0.mk (hb);replace HI0:=Aside0.mk (hi);(try clear hb hk hi))|((with_reducible refine gate_dst (N:=29) rfl ?_);refine Kd.R_lit (Kd.int .i64) _ 3 ?hg (N:=29) ?hd (xs:=([(-1),10,4611686018427387904] :List Int)) (inner:= [.int .i64 (-1), .int .i64 10, .int .i64 4611686018427387904]) (ok:=fun _=>True) (okp:=fun _=>True) ?hr ?hp (fun _ hk=>hk) trivial (Below.refl _ _) (Nat.le_refl _) (by simp) ?_;(case hd=>rfl);(case hg=>rfl);(case hr=>first|(go_simp;done)|(go_simp;rfl));(case hp=>exact (Reps.one (show Kd.M (Kd.int .i64) _ _ _ (-1) [.int .i64 (-1)] from rfl) (Reps.one (show Kd.M (Kd.int .i64) _ _ _ 10 [.int .i64 10] from rfl) (Reps.one (show Kd.M (Kd.int .i64) _ _ _ 4611686018427387904 [.int .i64 4611686018427387904] from rfl) (Reps.none _ _)))));intro v487 w22 ho23 hb hg_ hnew_;clear hg_ hnew_;(first|rw [←Ny486.out] at ho23|(simp only [Int.reduceToNat] at ho23;rw [←Ny486.out] at ho23));have HO488:=Aside0.mk (Kd.R_lower (Kd.R_new' ho23 (Kd.R_lt (uR HO_5))) (keep_size (w:=w) (g:=g) (row:=none) (uP HK)));replace HO_5:=Aside0.mk (Kd.R_elder' (uR HO_5) (Kd.R_base ho23) hb);replace BK469:=Aside0.mk (blk_below (uK BK469) hb);replace HI0:=Aside0.mk (IsS67.below (IsS67.u HI0) hb);replace HK:=Aside0.mk (KeepBut.trans (uP HK) (KeepBut.of_below hb g none) (.inl rfl));replace HB:=Aside0.mk (below_step (uB HB) hb);clear hb ho23;obtain ⟨Ao24,co24,eo24⟩:=Kd.R_slice HO488.out;subst eo24)|(refine gA (some 30) Try.func94 #[.pointer (some ⟨g,0,none⟩), .slice Ao24 y486.length co24] ?_;(with_reducible refine (spec_l1Cur_among.calls g s0_0 t484 t485 _ _ y486 t489 t490 t491 w0 _ (IsS67.u HI0) (uB HB) (uE HO488) ?side4 ?side5 A19.out).mono ?_);(case side4=>exact (Kd.R_reads' HO488.out).2.1);(case side5=>exact far_slice (IsS67.own_ne HI0.out HO488.out (by decide)));rintro e w25 ⟨rfl,hi,hb,hk⟩;refine ⟨_,rfl,?_⟩;replace HO_5:=Aside0.mk (Kd.R_mono (Kd.R_keep (IsS67.apart (show IsS67 w0 _ g s0_0 t484 t485 from IsS67.u HI0) (uR HO_5) (by decide)) hk (fun _ h=>h.2)) (fun _ h=>h.1));replace BK469:=Aside0.mk (KeepBut.blk hk (g':=gb469) (o:= .cells #[.slice A1_0 l1_0.length c1_0] 26 (0,0)) (uK BK469) NB469_0.out (by simp));replace HO488:=Aside0.mk (Kd.R_mono (Kd.R_keep (IsS67.apart (show IsS67 w0 _ g s0_0 t484 t485 from IsS67.u HI0) (uR HO488) (by decide)) hk (fun _ h=>h.2)) (fun _ h=>h.1));replace HK:=Aside0.mk (KeepBut.trans (uP HK) hk (.inl rfl));replace HB:=Aside0.mk (hb);replace HI0:=Aside0.mk (hi);(try clear hb hk hi))|((with_reducible refine gate_builtin (b:= .append) (xs:= #[.tmp 27, .tmp 31]) rfl ?_);at_builtin;refine Kd.R_append (Kd.int .i64) w.heap.size rfl (.tmp 27) (.tmp 31) 24 3 (.int .i64 0) 8 rfl Try.underlying24 info3 rfl (by decide) (by omega) u5 x5_1 t489 [.int .i64 t489] (fun k_=>some k_≠(.slice Ao24 y486.length co24:Value).ownBlock) (fun _=>False) rfl rfl ?aP (fun _ hk=>hk.elim) ?aF ?aO (Below.refl _ _) ?aS ?aL ?_;(case aP=>exact rfl);(case aF=>exact (fun k_ hk=>Kd.fresh' (Kd.R_lt (uR HO488)) k_ hk));(case aO=>exact (by (with_reducible repeat (first|apply Kd.R_alloc|apply Kd.R_drewN|apply Kd.R_drew));exact Kd.R_mono HO_5.out (fun _ hk=>hk.2)));(case aS=>exact (keep_size (w:=w) (g:=g) (row:=none) (uP HK)));(case aL=>have:=LMc20.out;omega);intro v493 w26 ho hb hg hat;rw [←Ny492.out] at ho;replace BK469:=Aside0.mk (blk_grown (uK BK469) hg (Kd.R_ne HO_5.out BK469.out (by decide)));replace HI0:=Aside0.mk (IsS67.grown (IsS67.u HI0) hg (IsS67.own_ne HI0.out HO_5.out (by decide)));replace HO488:=Aside0.mk (Kd.R_after (ok:=(fun _=>True)) (uR HO488) hg hat);replace HB:=Aside0.mk (below_weaken (uB HB) HL.out hb);replace HK:=Aside0.mk (KeepBut.trans (uP HK) (KeepBut.of_grown hg g) (Kd.R_base2 HO_5.out));have HO494:=Aside0.mk (ho);clear HO_5;clear ho hb hg hat))
      go_ret
      exact ⟨_,by first|rfl|(simp [errW_none,errW_some] <;>rfl)|(simp [*,errW_none,errW_some] <;>rfl),by (with_reducible repeat (first|apply Kd.R_alloc|apply Kd.R_drewN|apply Kd.R_drew));exact Kd.R_mono HO494.out (fun _ hk=>trivial),IsS67.u HI0,uB HB,uP HK⟩
     ·
      rw [if_neg c20] at H;exact absurd H (by simp)
    ·
     rw [if_neg c18] at H;have c18b0:(t483==0)=false:=beq_eq_false_iff_ne.mpr c18;have c18b1:(t483 !=0)=true:=bne_iff_ne.mpr c18
     by_cases c27:t483=1
     ·
      rw [if_pos c27] at H;have c27b0:(t483==1)=true:=beq_iff_eq.mpr c27;have c27b1:(t483 !=1)=false:=bne_eq_false_iff_eq.mpr c27;clear c27;have H':=Aside0.mk H;clear H;go_wp2_with (first|(refine gA (some 24) Try.func58 #[.pointer (some ⟨g,0,none⟩), .int .i64 20] ?_;(with_reducible refine (spec_l1Cur_pick.calls g s0_0 x1001_1 x1002_1 20 t483 t484 t485 w0 _ (IsS67.u HI0) (uB HB) A17.out).mono ?_);rintro e w28 ⟨rfl,hi,hb,hk⟩;refine ⟨_,rfl,?_⟩;replace HO_5:=Aside0.mk (Kd.R_mono (Kd.R_keep (IsS67.apart (show IsS67 w0 _ g s0_0 x1001_1 x1002_1 from IsS67.u HI0) (uR HO_5) (by decide)) hk (fun _ h=>h.2)) (fun _ h=>h.1));replace BK469:=Aside0.mk (KeepBut.blk hk (g':=gb469) (o:= .cells #[.slice A1_0 l1_0.length c1_0] 26 (0,0)) (uK BK469) NB469_0.out (by simp));replace HK:=Aside0.mk (KeepBut.trans (uP HK) hk (.inl rfl));replace HB:=Aside0.mk (hb);replace HI0:=Aside0.mk (hi);(try clear hb hk hi)))
      go_loopg [5] k1 (fun kq v5 w'=> ∃ (x5_2:List Int) (x1001_2:Int) (x1002_2:Int),Aside0 (spec_l1Cur_word2.l1 kq x5_2 s0_0 x1001_2 x1002_2=some (r1,r2,r3))∧Aside0 (kq≤k1)∧Aside0 (Kd.R (Kd.int .i64) 3 w' w.heap.size (fun _=>True) v5 x5_2)∧Aside0 (w'.heap[gb469]? =some (.cells #[(.slice A1_0 l1_0.length c1_0)] 26 (0,0)))∧Aside0 (IsS67 w0 w' g s0_0 x1001_2 x1002_2)∧Aside0 (KeepBut w w' g none)∧Aside0 (Below w0.heap.size w0 w'))
      case atStart=>exact ⟨(x5_1),(t484),(t485),H',⟨Nat.le_refl _⟩,⟨uR HO_5⟩,⟨uK BK469⟩,⟨IsS67.u HI0⟩,⟨uP HK⟩,⟨uB HB⟩⟩
      case round=>
       clear H'
       try clear c1
       try clear c2
       try clear p2
       try clear c5
       try clear c6
       try clear p6
       try clear c8
       try clear c9
       try clear c9b0
       try clear c12
       try clear c13
       try clear c18
       try clear c18b0
       try clear c18b1
       try clear c20
       try clear c27
       try clear c27b0
       try clear c27b1
       try clear hcz14_0
       try clear hfz14_0
       try clear p2
       obtain ⟨x5_2,x1001_2,x1002_2,HA,HK2,HO_5,BK469,HI0,HK,HB⟩:=hrel;cases gk with
       |zero=>exact absurd HA.out (by simp [spec_l1Cur_word2.l1])
       |succ k2=>
        have H:=HA.out;clear HA;simp only [spec_l1Cur_word2.l1] at H;obtain ⟨⟨t495,t496,t497⟩,A29,H⟩:=bs H;(try dsimp only at H)
        by_cases c30:(x5_2.length:Int)<(wrap64 (100+t495))
        ·
         rw [if_pos c30] at H;have c30b0:=decide_eq_true c30;clear c30
         by_cases c31:x5_2.length<17592186044416
         ·
          rw [if_pos c31] at H;have LMc31:=Aside0.mk c31;clear c31;obtain ⟨y498,hy498⟩: ∃ y_:List Int,y_=(x5_2++ [0]):=⟨_,rfl⟩
          replace H:(spec_l1Cur_word2.l1 k2 y498 s0_0 t496 t497)=some (r1,r2,r3):=by first|(rw [hy498];with_reducible exact H)|(have H2_:=(Option.bind_some _ _).symm.trans H;rw [hy498];with_reducible exact H2_)|(have H2_:=(Option.bind_some _ _).symm.trans H;with_reducible exact H2_)|with_reducible exact H|(rw [hy498];exact H)|exact H
          have Ny498:=Aside0.mk hy498;clear hy498;have H':=Aside0.mk H;clear H;obtain ⟨Ao32,co32,eo32⟩:=Kd.R_slice HO_5.out;subst eo32;go_wp2_with (first|(refine gA (some 38) Try.func58 #[.pointer (some ⟨g,0,none⟩), .int .i64 2] ?_;(with_reducible refine (spec_l1Cur_pick.calls g s0_0 x1001_2 x1002_2 2 t495 t496 t497 w0 _ (IsS67.u HI0) (uB HB) A29.out).mono ?_);rintro e w33 ⟨rfl,hi,hb,hk⟩;refine ⟨_,rfl,?_⟩;replace HO_5:=Aside0.mk (Kd.R_mono (Kd.R_keep (IsS67.apart (show IsS67 w0 _ g s0_0 x1001_2 x1002_2 from IsS67.u HI0) (uR HO_5) (by decide)) hk (fun _ h=>h.2)) (fun _ h=>h.1));replace BK469:=Aside0.mk (KeepBut.blk hk (g':=gb469) (o:= .cells #[.slice A1_0 l1_0.length c1_0] 26 (0,0)) (uK BK469) NB469_0.out (by simp));replace HK:=Aside0.mk (KeepBut.trans (uP HK) hk (.inl rfl));replace HB:=Aside0.mk (hb);replace HI0:=Aside0.mk (hi);(try clear hb hk hi))|((with_reducible refine gate_builtin (b:= .append) (xs:= #[.tmp 41, .tmp 42]) rfl ?_);at_builtin;refine Kd.R_append (Kd.int .i64) w.heap.size rfl (.tmp 41) (.tmp 42) 24 3 (.int .i64 0) 8 rfl Try.underlying24 info3 rfl (by decide) (by omega) (.slice Ao32 x5_2.length co32) x5_2 0 [.int .i64 0] (fun _=>True) (fun _=>False) rfl rfl ?aP (fun _ hk=>hk.elim) ?aF ?aO (Below.refl _ _) ?aS ?aL ?_;(case aP=>exact rfl);(case aF=>exact (fun _ _=>trivial));(case aO=>exact (uR HO_5));(case aS=>exact (keep_size (w:=w) (g:=g) (row:=none) (uP HK)));(case aL=>have:=LMc31.out;omega);intro v499 w34 ho hb hg hat;rw [←Ny498.out] at ho;replace BK469:=Aside0.mk (blk_grown (uK BK469) hg (Kd.R_ne HO_5.out BK469.out (by decide)));replace HI0:=Aside0.mk (IsS67.grown (IsS67.u HI0) hg (IsS67.own_ne HI0.out HO_5.out (by decide)));replace HB:=Aside0.mk (below_weaken (uB HB) HL.out hb);replace HK:=Aside0.mk (KeepBut.trans (uP HK) (KeepBut.of_grown hg g) (Kd.R_base2 HO_5.out));have HO500:=Aside0.mk (ho);clear HO_5;clear ho hb hg hat));go_roundg k2
          case measure=>have:=HK1.out;have:=HK2.out;omega
          case rel=>exact ⟨(y498),(t496),(t497),H',⟨by have:=HK1.out;have:=HK2.out;omega⟩,⟨uR HO500⟩,⟨uK BK469⟩,⟨IsS67.u HI0⟩,⟨uP HK⟩,⟨uB HB⟩⟩
         ·
          rw [if_neg c31] at H;exact absurd H (by simp)
        ·
         rw [if_neg c30] at H;have c30b0:=decide_eq_false c30;clear c30;simp only [Option.some.injEq,Prod.mk.injEq] at H;obtain ⟨rfl,rfl,rfl⟩:=H;obtain ⟨Ao35,co35,eo35⟩:=Kd.R_slice HO_5.out;subst eo35;go_wp2_with (first|(refine gA (some 38) Try.func58 #[.pointer (some ⟨g,0,none⟩), .int .i64 2] ?_;(with_reducible refine (spec_l1Cur_pick.calls g s0_0 x1001_2 x1002_2 2 t495 t496 t497 w0 _ (IsS67.u HI0) (uB HB) A29.out).mono ?_);rintro e w36 ⟨rfl,hi,hb,hk⟩;refine ⟨_,rfl,?_⟩;replace HO_5:=Aside0.mk (Kd.R_mono (Kd.R_keep (IsS67.apart (show IsS67 w0 _ g s0_0 x1001_2 x1002_2 from IsS67.u HI0) (uR HO_5) (by decide)) hk (fun _ h=>h.2)) (fun _ h=>h.1));replace BK469:=Aside0.mk (KeepBut.blk hk (g':=gb469) (o:= .cells #[.slice A1_0 l1_0.length c1_0] 26 (0,0)) (uK BK469) NB469_0.out (by simp));replace HK:=Aside0.mk (KeepBut.trans (uP HK) hk (.inl rfl));replace HB:=Aside0.mk (hb);replace HI0:=Aside0.mk (hi);(try clear hb hk hi)))
         go_ret
         exact ⟨_,by first|rfl|(simp [errW_none,errW_some] <;>rfl)|(simp [*,errW_none,errW_some] <;>rfl),uR HO_5,IsS67.u HI0,uB HB,uP HK⟩
     ·
      rw [if_neg c27] at H;have c27b0:(t483==1)=false:=beq_eq_false_iff_ne.mpr c27;have c27b1:(t483 !=1)=true:=bne_iff_ne.mpr c27;simp only [Option.some.injEq,Prod.mk.injEq] at H;obtain ⟨rfl,rfl,rfl⟩:=H;go_wp2_with (first|(refine gA (some 24) Try.func58 #[.pointer (some ⟨g,0,none⟩), .int .i64 20] ?_;(with_reducible refine (spec_l1Cur_pick.calls g s0_0 x1001_1 x1002_1 20 t483 t484 t485 w0 _ (IsS67.u HI0) (uB HB) A17.out).mono ?_);rintro e w37 ⟨rfl,hi,hb,hk⟩;refine ⟨_,rfl,?_⟩;replace HO_5:=Aside0.mk (Kd.R_mono (Kd.R_keep (IsS67.apart (show IsS67 w0 _ g s0_0 x1001_1 x1002_1 from IsS67.u HI0) (uR HO_5) (by decide)) hk (fun _ h=>h.2)) (fun _ h=>h.1));replace BK469:=Aside0.mk (KeepBut.blk hk (g':=gb469) (o:= .cells #[.slice A1_0 l1_0.length c1_0] 26 (0,0)) (uK BK469) NB469_0.out (by simp));replace HK:=Aside0.mk (KeepBut.trans (uP HK) hk (.inl rfl));replace HB:=Aside0.mk (hb);replace HI0:=Aside0.mk (hi);(try clear hb hk hi)))
      go_ret
      exact ⟨_,by first|rfl|(simp [errW_none,errW_some] <;>rfl)|(simp [*,errW_none,errW_some] <;>rfl),uR HO_5,IsS67.u HI0,uB HB,uP HK⟩
end Go.Proofs.Ytkgngggppcmpfaa.L
end
section
namespace Go.Proofs.Ytkgngggppcmpfaa.L
open Go.RowKit Go.Proofs.YtkgngggppcmpfaaW.PrintWords Go.Proofs.YtkgngggppcmpfaaW.PrintLast Go.Proofs.YtkgngggppcmpfaaW.PrintMore
attribute [local go_sem] max2_int min2_int max_two min_two max_three min_three max_four min_four
set_option linter.unusedVariables false
set_option linter.unusedSimpArgs false
def spec_DrawToggleNumbers.f (k : Nat) (l0 : List Int) : Option (List Int × List Int × Int × List Int) := (spec_l1Cur_array.f k l0 0 0 8).bind fun bt503 => ((spec_l1Cur_word2.f k l0 bt503.2.2.2.1 bt503.2.2.2.2 bt503.1).bind fun bt513 => (some (bt503.1, bt503.2.1, bt503.2.2.1, bt513.1)))
theorem spec_DrawToggleNumbers.mono : ∀ a0 k, LeO (spec_DrawToggleNumbers.f k a0) (spec_DrawToggleNumbers.f (k + 1) a0) := by
 intro a0 k;unfold spec_DrawToggleNumbers.f
 repeat' first
  |(with_reducible exact spec_l1Cur_array.mono _ _ _ _ _)
  |(with_reducible exact spec_l1Cur_word2.mono _ _ _ _ _)
  |(with_reducible exact LeO.refl _)
  |(with_reducible exact LeO.none _)
  |(with_reducible refine LeO.ite ?_ ?_)
  |(with_reducible refine LeO.bind ?_ (fun _=> ?_))
  |exact spec_l1Cur_array.mono _ _ _ _ _
  |exact spec_l1Cur_word2.mono _ _ _ _ _
  |exact LeO.none _
  |refine LeO.ite ?_ ?_
  |refine LeO.bind ?_ (fun _=> ?_)
def spec_DrawToggleNumbers.T3 : Bool × List (List Nat × List Nat) := (true, [([], []), ([], []), ([], []), ([], []), ([], []), ([3, 4], [3, 4]), ([0, 5, 0], [0]), ([1, 6, 0, 1, 6], [1]), ([2, 7, 0, 1, 2, 6, 7], [2]), ([5, 8, 0, 1, 2, 3, 4, 5, 6, 7, 8], [5])])
def spec_DrawToggleNumbers.B3 : List Nat := [0, 0, 0, 0, 0, 24, 57, 123, 255, 511]
theorem spec_DrawToggleNumbers.tab3 : rtab .any (opsOf Try.f24 3) = spec_DrawToggleNumbers.T3 := by kernel_rfl
theorem spec_DrawToggleNumbers.bits3 : waitsOk spec_DrawToggleNumbers.T3.2 spec_DrawToggleNumbers.B3 = true := by kernel_rfl
set_option maxHeartbeats 8000000 in
set_option maxRecDepth 100000 in
theorem spec_DrawToggleNumbers.calls (k : Nat) (A0 : Option Addr) (c0 : Nat) (l0 : List Int) (r1 : List Int) (r2 : List Int) (r3 : Int) (r4 : List Int) (w : World) (hr0 : Kd.C (Kd.int .u8) w A0 l0.length l0) (hc0 : l0.length ≤ c0) (h : spec_DrawToggleNumbers.f k l0 = some (r1, r2, r3, r4)) :
 Calls Try.prog 24 #[.slice A0 l0.length c0] w fun e w'=> ∃ v0_ v1_ v3_:Value,e= .returned (.tuple #[.agg #[v0_],v1_, .int .i64 r3,v3_])∧Kd.R (Kd.int .i64) 3 w' w.heap.size (fun k_=>some k_≠(v1_:Value).ownBlock∧some k_≠(v3_:Value).ownBlock) v0_ r1∧Kd.R (Kd.int .i64) 3 w' w.heap.size (fun k_=>some k_≠(v0_:Value).ownBlock∧some k_≠(v3_:Value).ownBlock) v1_ r2∧Kd.R (Kd.int .i64) 3 w' w.heap.size (fun k_=>some k_≠(v0_:Value).ownBlock∧some k_≠(v1_:Value).ownBlock) v3_ r4∧Below w.heap.size w w':=by
 have hu26:=Try.underlying26;have hu67:=Try.underlying67;have HR0:=Aside0.mk hr0;have HC0:=Aside0.mk hc0;clear hr0 hc0;have HB:=Aside0.mk (Below.refl w.heap.size w);have H:((spec_l1Cur_array.f k l0 0 0 8).bind fun bt503=>((spec_l1Cur_word2.f k l0 bt503.2.2.2.1 bt503.2.2.2.2 bt503.1).bind fun bt513=>(some (bt503.1,bt503.2.1,bt503.2.2.1,bt513.1))))=some (r1,r2,r3,r4):=h;clear h;replace H:=Option.bind_eq_some_iff.mp H;obtain ⟨⟨t503,t506,t509,t510,t511⟩,A20,H⟩:=H;replace H:((spec_l1Cur_word2.f k l0 t510 t511 t503).bind fun bt513=>(some (t503,t506,t509,bt513.1)))=some (r1,r2,r3,r4):=H;have A2:=Aside0.mk A20;clear A20;replace H:=Option.bind_eq_some_iff.mp H;obtain ⟨⟨t513,t516,t517⟩,A30,H⟩:=H;replace H:(some (t503,t506,t509,t513))=some (r1,r2,r3,r4):=H;have A3:=Aside0.mk A30;clear A30;simp only [Option.some.injEq,Prod.mk.injEq] at H;obtain ⟨rfl,rfl,rfl,rfl⟩:=H;go_enter Try.func24,Try.ntmps24
 try go_wp2_with (first|((with_reducible refine gate_dst (N:=2) rfl ?_);refine box_event ?hg (N:=2) ?hd (cs:= #[.slice none 0 0]) (t:=26) ?hr ?_;(case hd=>rfl);(case hg=>rfl);(case hr=>first|(go_simp;done)|(go_simp;rfl));intro gb501 hg w4 hbox hb;have BK501:=Aside0.mk (hbox);have GW501:=Aside0.mk ((by rw [hg];exact (below_size (by repeat (first|(with_reducible first|exact HB.out|apply below_alloc|apply pw_below_drewN|apply below_drew1)|exact HB.out))):w.heap.size≤gb501));have GE501:=GW501;replace HB:=Aside0.mk (below_step (by repeat (first|(with_reducible first|exact HB.out|apply below_alloc|apply pw_below_drewN|apply below_drew1)|exact HB.out)) hb);clear hb hbox hg)|((with_reducible refine gate_dst (N:=12) rfl ?_);refine box_event ?hg (N:=12) ?hd (cs:= #[.slice A0 l0.length c0, .int .i64 0, .int .u64 0]) (t:=67) ?hr ?_;(case hd=>rfl);(case hg=>rfl);(case hr=>first|(go_simp;done)|(go_simp;rfl));intro gb502 hg w5 hbox hb;have HI502:=Aside0.mk ((⟨_,_,hbox,(by rw [hg];exact (below_size (by repeat (first|(with_reducible first|exact HB.out|apply below_alloc|apply pw_below_drewN|apply below_drew1|refine below_set ?_ GE501.out)|exact HB.out))):w.heap.size≤gb502),HR0.out⟩:IsS67 w _ gb502 l0 0 0));have GW502:=Aside0.mk ((by rw [hg];exact (below_size (by repeat (first|(with_reducible first|exact HB.out|apply below_alloc|apply pw_below_drewN|apply below_drew1|refine below_set ?_ GE501.out)|exact HB.out))):w.heap.size≤gb502));have GE502:=GW502;replace HB:=Aside0.mk (below_step (by repeat (first|(with_reducible first|exact HB.out|apply below_alloc|apply pw_below_drewN|apply below_drew1|refine below_set ?_ GE501.out)|exact HB.out)) hb);have NB501_502:=Aside0.mk ((by rw [hg];exact Nat.ne_of_lt (blk_lt (g:=gb501) (o:= .cells #[.slice none 0 0] 26 (0,0)) (by (with_reducible repeat (first|refine blk_drewN ?_ _|refine blk_drew ?_|refine blk_alloc ?_ _));exact BK501.out)):gb501≠gb502));have NB502_501:=Aside0.mk ((by rw [hg];exact Nat.ne_of_gt (blk_lt (g:=gb501) (o:= .cells #[.slice none 0 0] 26 (0,0)) (by (with_reducible repeat (first|refine blk_drewN ?_ _|refine blk_drew ?_|refine blk_alloc ?_ _));exact BK501.out)):gb502≠gb501));replace BK501:=Aside0.mk (blk_below (g:=gb501) (o:= .cells #[.slice none 0 0] 26 (0,0)) (by (with_reducible repeat (first|refine blk_drewN ?_ _|refine blk_drew ?_|refine blk_alloc ?_ _));exact BK501.out) hb);clear hb hbox hg)|((with_reducible refine gate_callee (f:=61) rfl ?_);refine goesL_ (some 15) rfl rfl Try.func61 (by kernel_rfl) rfl #[.pointer (some ⟨gb502,0,none⟩), .int .i64 8] rfl (by (try simp only [List.map_toArray,List.map_cons,List.map_nil]);first|done|rfl|(simp only [List.length_drop,List.length_take];rfl)) ?_;(with_reducible refine (spec_l1Cur_array.calls k gb502 l0 0 0 8 t503 t506 t509 t510 t511 w _ ?side1 ?side2 A2.out).mono ?_);(case side1=>repeat (first|(with_reducible first|exact HI502.out|apply IsS67.alloc|apply IsS67.drewN|apply IsS67.drew|apply IsS67.set_1|apply IsS67.set_2|refine IsS67.far ?_ NB502_501.out _)|exact HI502.out));(case side2=>repeat (first|(with_reducible first|exact HB.out|apply below_alloc|apply pw_below_drewN|apply below_drew1|refine below_set ?_ (IsS67.ge HI502.out)|refine below_set ?_ GE501.out)|exact HB.out));rintro e w6 ⟨v504,v507,rfl,ho0,ho1,hi,hb,hk⟩;refine ⟨_,rfl,?_⟩;replace BK501:=Aside0.mk (KeepBut.blk hk (g':=gb501) (o:= .cells #[.slice none 0 0] 26 (0,0)) (by (with_reducible repeat (first|refine blk_drewN ?_ _|refine blk_drew ?_|refine blk_alloc ?_ _));exact BK501.out) NB501_502.out (by simp));have HO505:=Aside0.mk (Kd.R_lower ho0 (below_size (by repeat (first|(with_reducible first|exact HB.out|apply below_alloc|apply pw_below_drewN|apply below_drew1|refine below_set ?_ (IsS67.ge HI502.out)|refine below_set ?_ GE501.out)|exact HB.out))));have HO508:=Aside0.mk (Kd.R_lower ho1 (below_size (by repeat (first|(with_reducible first|exact HB.out|apply below_alloc|apply pw_below_drewN|apply below_drew1|refine below_set ?_ (IsS67.ge HI502.out)|refine below_set ?_ GE501.out)|exact HB.out))));replace HB:=Aside0.mk (hb);replace HI502:=Aside0.mk (hi);(try clear hb);(try clear hb2);(try clear hk);(try clear hi);(try clear ho0);(try clear ho1))|((with_reducible refine gate_dst (N:=7) rfl ?_);refine box_event ?hg (N:=7) ?hd (cs:= #[.slice none 0 0]) (t:=26) ?hr ?_;(case hd=>rfl);(case hg=>rfl);(case hr=>first|(go_simp;done)|(go_simp;rfl));intro gb512 hg w7 hbox hb;replace HO505:=Aside0.mk (Kd.R_below (by (with_reducible repeat (first|apply Kd.R_alloc|apply Kd.R_drewN|apply Kd.R_drew));exact HO505.out) hb);replace HO508:=Aside0.mk (Kd.R_below (by (with_reducible repeat (first|apply Kd.R_alloc|apply Kd.R_drewN|apply Kd.R_drew));exact HO508.out) hb);have BK512:=Aside0.mk (hbox);have GW512:=Aside0.mk ((by rw [hg];exact (below_size (by repeat (first|(with_reducible first|exact HB.out|apply below_alloc|apply pw_below_drewN|apply below_drew1|refine below_set ?_ (IsS67.ge HI502.out)|refine below_set ?_ GE501.out)|exact HB.out))):w.heap.size≤gb512));have GE512:=GW512;replace HB:=Aside0.mk (below_step (by repeat (first|(with_reducible first|exact HB.out|apply below_alloc|apply pw_below_drewN|apply below_drew1|refine below_set ?_ (IsS67.ge HI502.out)|refine below_set ?_ GE501.out)|exact HB.out)) hb);have NB501_512:=Aside0.mk ((by rw [hg];exact Nat.ne_of_lt (blk_lt (g:=gb501) (o:= .cells #[.slice none 0 0] 26 (0,0)) (by (with_reducible repeat (first|refine blk_drewN ?_ _|refine blk_drew ?_|refine blk_alloc ?_ _));exact BK501.out)):gb501≠gb512));have NB512_501:=Aside0.mk ((by rw [hg];exact Nat.ne_of_gt (blk_lt (g:=gb501) (o:= .cells #[.slice none 0 0] 26 (0,0)) (by (with_reducible repeat (first|refine blk_drewN ?_ _|refine blk_drew ?_|refine blk_alloc ?_ _));exact BK501.out)):gb512≠gb501));replace BK501:=Aside0.mk (blk_below (g:=gb501) (o:= .cells #[.slice none 0 0] 26 (0,0)) (by (with_reducible repeat (first|refine blk_drewN ?_ _|refine blk_drew ?_|refine blk_alloc ?_ _));exact BK501.out) hb);have NB502_512:=Aside0.mk ((by rw [hg];exact Nat.ne_of_lt (IsS67.lt (show IsS67 w _ gb502 l0 t510 t511 from by repeat (first|(with_reducible first|exact HI502.out|apply IsS67.alloc|apply IsS67.drewN|apply IsS67.drew|apply IsS67.set_1|apply IsS67.set_2|refine IsS67.far ?_ NB502_501.out _)|exact HI502.out))):gb502≠gb512));have NB512_502:=Aside0.mk ((by rw [hg];exact Nat.ne_of_gt (IsS67.lt (show IsS67 w _ gb502 l0 t510 t511 from by repeat (first|(with_reducible first|exact HI502.out|apply IsS67.alloc|apply IsS67.drewN|apply IsS67.drew|apply IsS67.set_1|apply IsS67.set_2|refine IsS67.far ?_ NB502_501.out _)|exact HI502.out))):gb512≠gb502));replace HI502:=Aside0.mk (IsS67.below (by repeat (first|(with_reducible first|exact HI502.out|apply IsS67.alloc|apply IsS67.drewN|apply IsS67.drew|apply IsS67.set_1|apply IsS67.set_2|refine IsS67.far ?_ NB502_501.out _)|exact HI502.out)) hb);clear hb hbox hg;obtain ⟨Ao8,co8,eo8⟩:=Kd.R_slice HO505.out;subst eo8;have hnb9:=NB512_501.out;have hnc9:=NB501_512.out;have hnb10:=NB512_502.out;have hnc10:=NB502_512.out;have hcz11_0:w7.cell? ⟨gb512,0,none⟩=some (.slice none 0 0):=(blk_cell BK512.out 0).trans rfl;have hfz11_0:=blk_frozen BK512.out 0))
 have n0_:Aside0 (Kd.R (Kd.int .i64) 3 (w7.setCell ⟨gb512,0,none⟩ (.slice Ao8 t503.length co8)) w.heap.size (fun k_=>some k_≠(v507:Value).ownBlock) (.slice Ao8 t503.length co8) t503):=⟨by (with_reducible repeat (first|apply Kd.R_alloc|apply Kd.R_drewN|apply Kd.R_drew));exact Kd.R_mono (Kd.R_far (p:=⟨gb512,0,none⟩) (Kd.R_types HO505.out BK512.out (by decide)) (fun _ hk=>hk.2) (.slice Ao8 t503.length co8)) (fun _ hk=>hk.1)⟩
 have n1_:Aside0 (Kd.R (Kd.int .i64) 3 (w7.setCell ⟨gb512,0,none⟩ (.slice Ao8 t503.length co8)) w.heap.size (fun k_=>some k_≠(.slice Ao8 t503.length co8:Value).ownBlock) v507 t506):=⟨by (with_reducible repeat (first|apply Kd.R_alloc|apply Kd.R_drewN|apply Kd.R_drew));exact Kd.R_mono (Kd.R_far (p:=⟨gb512,0,none⟩) (Kd.R_types HO508.out BK512.out (by decide)) (fun _ hk=>hk.2) (.slice Ao8 t503.length co8)) (fun _ hk=>hk.1)⟩
 have n2_:Aside0 ((w7.setCell ⟨gb512,0,none⟩ (.slice Ao8 t503.length co8)).heap[gb501]? =some (.cells #[.slice none 0 0] 26 (0,0))):=⟨by (with_reducible repeat (first|refine blk_drewN ?_ _|refine blk_drew ?_|refine blk_alloc ?_ _));refine blk_far ?_ NB501_512.out _;(with_reducible repeat (first|refine blk_drewN ?_ _|refine blk_drew ?_|refine blk_alloc ?_ _));exact BK501.out⟩
 have n3_:Aside0 ((w7.setCell ⟨gb512,0,none⟩ (.slice Ao8 t503.length co8)).heap[gb512]? =some (.cells #[.slice Ao8 t503.length co8] 26 (0,0))):=⟨by (with_reducible repeat (first|refine blk_drewN ?_ _|refine blk_drew ?_|refine blk_alloc ?_ _));refine blk_put (cs:= #[.slice none 0 0]) ?_ 0 _ rfl;(with_reducible repeat (first|refine blk_drewN ?_ _|refine blk_drew ?_|refine blk_alloc ?_ _));exact BK512.out⟩
 have n4_:Aside0 (IsS67 w (w7.setCell ⟨gb512,0,none⟩ (.slice Ao8 t503.length co8)) gb502 l0 t510 t511):=⟨by repeat (first|(with_reducible first|exact HI502.out|apply IsS67.alloc|apply IsS67.drewN|apply IsS67.drew|apply IsS67.set_1|apply IsS67.set_2|refine IsS67.far ?_ NB502_501.out _|refine IsS67.far ?_ NB502_512.out _)|exact HI502.out)⟩
 have n5_:Aside0 (Below w.heap.size w (w7.setCell ⟨gb512,0,none⟩ (.slice Ao8 t503.length co8))):=⟨by repeat (first|(with_reducible first|exact HB.out|apply below_alloc|apply pw_below_drewN|apply below_drew1|refine below_set ?_ (IsS67.ge HI502.out)|refine below_set ?_ GE501.out|refine below_set ?_ GE512.out)|exact HB.out)⟩
 (try clear HO505)
 (try clear HO508)
 (try clear BK501)
 (try clear BK512)
 (try clear HI502)
 (try clear HB)
 generalize (w7.setCell ⟨gb512,0,none⟩ (.slice Ao8 t503.length co8))=w12 at n0_ n1_ n2_ n3_ n4_ n5_ ⊢;have HO505:=n0_;have HO508:=n1_;have BK501:=n2_;have BK512:=n3_;have HI502:=n4_;have HB:=n5_;clear n0_ n1_ n2_ n3_ n4_ n5_;replace HO505:=Aside0.mk (Kd.R_drew HO505.out);replace HO508:=Aside0.mk (Kd.R_drew HO508.out);replace BK501:=Aside0.mk (blk_drew BK501.out);replace BK512:=Aside0.mk (blk_drew BK512.out);replace HI502:=Aside0.mk (IsS67.drew HI502.out);replace HB:=Aside0.mk (below_drew1 HB.out);refine start_ (n:=10) (S:=fun w'=>w'.cell? ⟨gb512,0,none⟩=some (.slice Ao8 t503.length co8)) (ds:= []) #[false,false,false,false,false,false,false,false,false,false] (by kernel_rfl) rfl rfl ((blk_cell BK512.out 0).trans rfl) (fun hHeld=> ?_);refine with_tabW spec_DrawToggleNumbers.tab3 spec_DrawToggleNumbers.bits3 (fun HT_ HW_=> ?_);generalize w12.drew=w13 at HO505 HO508 BK501 BK512 HI502 HB hHeld ⊢;refine pure_ (i:=1) (N:=some 20) (v:= ?_) (a':= ?_) #[false,true,false,false,false,false,false,false,false,false] rfl rfl (any_of HT_.out (by kernel_rfl)) (fun _ _ _ h=>h) (Or.inl ⟨by rfl,?_⟩) ?_ ?_;rotate_left
 ·
  intro w';go_simp
  with_reducible rfl
 rotate_left
 ·
  simp only [Act.put,List.setIfInBounds_toArray,List.set_cons_zero,List.set_cons_succ,i64_w,i32_w];rfl
 refine pure_ (i:=2) (N:=some 21) (v:= ?_) (a':= ?_) #[false,true,true,false,false,false,false,false,false,false] rfl rfl (any_of HT_.out (by kernel_rfl)) (fun _ _ _ h=>h) (Or.inl ⟨by rfl,?_⟩) ?_ ?_;rotate_left
 ·
  intro w';go_simp
  with_reducible rfl
 rotate_left
 ·
  simp only [Act.put,List.setIfInBounds_toArray,List.set_cons_zero,List.set_cons_succ,i64_w,i32_w];rfl
 refine pure_ (i:=3) (N:=some 22) (v:= ?_) (a':= ?_) #[false,true,true,true,false,false,false,false,false,false] rfl rfl (any_of HT_.out (by kernel_rfl)) (fun _ _ _ h=>h) (Or.inl ⟨by rfl,?_⟩) ?_ ?_;rotate_left
 ·
  intro w';go_simp
  with_reducible rfl
 rotate_left
 ·
  simp only [Act.put,List.setIfInBounds_toArray,List.set_cons_zero,List.set_cons_succ,i64_w,i32_w];rfl
 refine take_ (i:=0) (N:=some 19) (v:= ?_) (a':= ?_) #[true,true,true,true,false,false,false,false,false,false] rfl rfl (take_ofW HT_.out HW_.out (by kernel_rfl)) (fun _ _ _ h=>h) (Or.inl ⟨by rfl,?_⟩) hHeld ?_ ?_;rotate_left
 ·
  intro w' s0;go_simp
  with_reducible rfl
 rotate_left
 ·
  simp only [Act.put,List.setIfInBounds_toArray,List.set_cons_zero,List.set_cons_succ,i64_w,i32_w];rfl
 refine take_ (i:=4) (N:=some 23) (v:= ?_) (a':= ?_) #[true,true,true,true,true,false,false,false,false,false] rfl rfl (take_ofW HT_.out HW_.out (by kernel_rfl)) (fun _ _ _ h=>h) (Or.inl ⟨by rfl,?_⟩) hHeld ?_ ?_;rotate_left
 ·
  intro w' s0;go_simp
  with_reducible rfl
 rotate_left
 ·
  simp only [Act.put,List.setIfInBounds_toArray,List.set_cons_zero,List.set_cons_succ,i64_w,i32_w];rfl
 refine one_ (i:=5) (N:=some 24) #[true,true,true,true,true,true,false,false,false,false] rfl rfl (one_of HT_.out (by kernel_rfl)) (by decide) (fun K hK=> ?_);refine goes_ Try.func84 (by kernel_rfl) rfl #[.pointer (some ⟨gb502,0,none⟩), .agg #[.slice Ao8 t503.length co8]] (by rfl) rfl rfl (by (try simp only [List.map_toArray,List.map_cons,List.map_nil]);first|done|rfl|(simp only [List.length_drop,List.length_take];rfl)) ?_
 with_reducible refine (spec_l1Cur_word2.calls k gb502 l0 t510 t511 _ _ t503 t513 t516 t517 w _ ?side1 ?side2 ?side3 ?side4 ?side5 A3.out).mono ?_
 (case side1=>repeat (first|(with_reducible first|exact HI502.out|apply IsS67.alloc|apply IsS67.drewN|apply IsS67.drew|apply IsS67.set_1|apply IsS67.set_2|refine IsS67.far ?_ NB502_501.out _|refine IsS67.far ?_ NB502_512.out _)|exact HI502.out))
 (case side2=>repeat (first|(with_reducible first|exact HB.out|apply below_alloc|apply pw_below_drewN|apply below_drew1|refine below_set ?_ (IsS67.ge HI502.out)|refine below_set ?_ GE501.out|refine below_set ?_ GE512.out)|exact HB.out))
 (case side3=>repeat (first|exact (Kd.R_reads' HO505.out).2.2|(with_reducible refine Kd.C_alloc ?_ _)|(with_reducible refine Kd.C_drewN ?_ _)|(with_reducible refine Kd.C_drew ?_)))
 (case side4=>exact (Kd.R_reads' HO505.out).2.1)
 (case side5=>exact far_slice (IsS67.own_ne HI502.out HO505.out (by decide)))
 rintro e w14 ⟨v514,rfl,ho0,hi,hb,hk⟩;refine ⟨_,rfl,?_⟩;replace BK501:=Aside0.mk (KeepBut.blk hk (g':=gb501) (o:= .cells #[.slice none 0 0] 26 (0,0)) (by (with_reducible repeat (first|refine blk_drewN ?_ _|refine blk_drew ?_|refine blk_alloc ?_ _));exact BK501.out) NB501_502.out (by simp));replace BK512:=Aside0.mk (KeepBut.blk hk (g':=gb512) (o:= .cells #[.slice Ao8 t503.length co8] 26 (0,0)) (by (with_reducible repeat (first|refine blk_drewN ?_ _|refine blk_drew ?_|refine blk_alloc ?_ _));exact BK512.out) NB512_502.out (by simp));have HO515:=Aside0.mk (Kd.R_lower (Kd.R_new' (Kd.R_new' ho0 (Kd.R_lt (by (with_reducible repeat (first|apply Kd.R_alloc|apply Kd.R_drewN|apply Kd.R_drew));exact HO505.out))) (Kd.R_lt (by (with_reducible repeat (first|apply Kd.R_alloc|apply Kd.R_drewN|apply Kd.R_drew));exact HO508.out))) (below_size (by repeat (first|(with_reducible first|exact HB.out|apply below_alloc|apply pw_below_drewN|apply below_drew1|refine below_set ?_ (IsS67.ge HI502.out)|refine below_set ?_ GE501.out|refine below_set ?_ GE512.out)|exact HB.out))));replace HO505:=Aside0.mk (Kd.R_mono (Kd.R_told (Kd.R_oldK (IsS67.apart (show IsS67 w _ gb502 l0 t510 t511 from by repeat (first|(with_reducible first|exact HI502.out|apply IsS67.alloc|apply IsS67.drewN|apply IsS67.drew|apply IsS67.set_1|apply IsS67.set_2|refine IsS67.far ?_ NB502_501.out _|refine IsS67.far ?_ NB502_512.out _)|exact HI502.out)) (by (with_reducible repeat (first|apply Kd.R_alloc|apply Kd.R_drewN|apply Kd.R_drew));exact HO505.out) (by decide)) hk) (Kd.R_base ho0)) (fun _ h_=>h_.1));replace HO508:=Aside0.mk (Kd.R_mono (Kd.R_told (Kd.R_oldK (IsS67.apart (show IsS67 w _ gb502 l0 t510 t511 from by repeat (first|(with_reducible first|exact HI502.out|apply IsS67.alloc|apply IsS67.drewN|apply IsS67.drew|apply IsS67.set_1|apply IsS67.set_2|refine IsS67.far ?_ NB502_501.out _|refine IsS67.far ?_ NB502_512.out _)|exact HI502.out)) (by (with_reducible repeat (first|apply Kd.R_alloc|apply Kd.R_drewN|apply Kd.R_drew));exact HO508.out) (by decide)) hk) (Kd.R_base ho0)) (fun _ h_=>h_.1));replace HB:=Aside0.mk (hb);replace HI502:=Aside0.mk (hi)
 (try clear hb)
 (try clear hb2)
 (try clear hk)
 (try clear hi)
 (try clear ho0)
 refine hK.out _ _ ((blk_cell BK512.out 0).trans rfl) (fun hHeld=> ?_);clear hK K;refine norm_ (a':= ?_) ?_ ?_;rotate_left
 ·
  show Act.put _ (some 24) _=_
  simp only [Act.put,List.setIfInBounds_toArray,List.set_cons_zero,List.set_cons_succ,i64_w,i32_w];rfl
 refine one_ (i:=6) (N:=none) #[true,true,true,true,true,true,true,false,false,false] rfl rfl (one_of HT_.out (by kernel_rfl)) (by decide) (fun K hK=> ?_);have hs15:w14.cell? ⟨gb501,0,none⟩=some (.slice none 0 0):=(blk_cell BK501.out 0).trans rfl;have hfs15:=blk_frozen BK501.out 0;have hns15_1:=NB512_501.out;have hms15_1:=NB501_512.out;refine skip_ (w1:= ?_) (by rfl) rfl ?_ ?_;rotate_left
 ·
  go_simp;rfl
 refine hK.out _ _ (((cell_far (p:=⟨gb501,_,none⟩) NB512_501.out _).trans (hHeld))) (fun hHeld=> ?_);clear hK K;refine pure_ (i:=7) (N:=some 3) (v:= ?_) (a':= ?_) #[true,true,true,true,true,true,true,true,false,false] rfl rfl (any_of HT_.out (by kernel_rfl)) (fun _ _ _ h=>h) (Or.inl ⟨by rfl,?_⟩) ?_ ?_;rotate_left
 ·
  intro w';go_simp
  with_reducible rfl
 rotate_left
 ·
  simp only [Act.put,List.setIfInBounds_toArray,List.set_cons_zero,List.set_cons_succ,i64_w,i32_w];rfl
 refine pure_ (i:=8) (N:=some 4) (v:= ?_) (a':= ?_) #[true,true,true,true,true,true,true,true,true,false] rfl rfl (any_of HT_.out (by kernel_rfl)) (fun _ _ _ h=>h) (Or.inl ⟨by rfl,?_⟩) ?_ ?_;rotate_left
 ·
  intro w';go_simp
  with_reducible rfl
 rotate_left
 ·
  simp only [Act.put,List.setIfInBounds_toArray,List.set_cons_zero,List.set_cons_succ,i64_w,i32_w];rfl
 refine pure_ (i:=9) (N:=some 5) (v:= ?_) (a':= ?_) #[true,true,true,true,true,true,true,true,true,true] rfl rfl (any_of HT_.out (by kernel_rfl)) (fun _ _ _ h=>h) (Or.inl ⟨by rfl,?_⟩) ?_ ?_;rotate_left
 ·
  intro w';go_simp
  with_reducible rfl
 rotate_left
 ·
  simp only [Act.put,List.setIfInBounds_toArray,List.set_cons_zero,List.set_cons_succ,i64_w,i32_w];rfl
 refine done_ (done_of HT_.out (by kernel_rfl)) ?_
 try go_wp2
 refine bodyPost_ret (results_list (rs:= [.cell 2 26, .tmp 3, .tmp 4, .tmp 5]) rfl (by simp) (.cell gb501 26 #[.slice Ao8 t503.length co8] (0,0) _ rfl (by (with_reducible repeat (first|refine blk_drewN ?_ _|refine blk_drew ?_|refine blk_alloc ?_ _));refine blk_put (cs:= #[.slice none 0 0]) ?_ 0 _ rfl;(with_reducible repeat (first|refine blk_drewN ?_ _|refine blk_drew ?_|refine blk_alloc ?_ _));exact BK501.out) Try.underlying26 rfl (by kernel_rfl) (.tmp (.tmp (.tmp .nil))))) rfl ?_;exact ⟨_,_,_,by first|rfl|(simp [errW_none,errW_some] <;>rfl)|(simp [*,errW_none,errW_some] <;>rfl),by (with_reducible repeat (first|apply Kd.R_alloc|apply Kd.R_drewN|apply Kd.R_drew));exact Kd.R_mono (Kd.R_far (p:=⟨gb501,0,none⟩) (Kd.R_types HO505.out BK501.out (by decide)) (fun _ hk=>hk.2) (.slice Ao8 t503.length co8)) (fun _ hk=>⟨hk.1.1,hk.1.2⟩),by (with_reducible repeat (first|apply Kd.R_alloc|apply Kd.R_drewN|apply Kd.R_drew));exact Kd.R_mono (Kd.R_far (p:=⟨gb501,0,none⟩) (Kd.R_types HO508.out BK501.out (by decide)) (fun _ hk=>hk.2) (.slice Ao8 t503.length co8)) (fun _ hk=>⟨hk.1.1,hk.1.2⟩),by (with_reducible repeat (first|apply Kd.R_alloc|apply Kd.R_drewN|apply Kd.R_drew));exact Kd.R_mono (Kd.R_far (p:=⟨gb501,0,none⟩) (Kd.R_types HO515.out BK501.out (by decide)) (fun _ hk=>hk.2) (.slice Ao8 t503.length co8)) (fun _ hk=>⟨hk.1.1.2,hk.1.2⟩),by repeat (first|(with_reducible first|exact HB.out|apply below_alloc|apply pw_below_drewN|apply below_drew1|refine below_set ?_ (IsS67.ge HI502.out)|refine below_set ?_ GE501.out|refine below_set ?_ GE512.out)|exact HB.out)⟩
end Go.Proofs.Ytkgngggppcmpfaa.L
end
section
namespace Go.Proofs.Ytkgngggppcmpfaa.L
open Go.RowKit Go.Proofs.YtkgngggppcmpfaaW.PrintWords Go.Proofs.YtkgngggppcmpfaaW.PrintLast Go.Proofs.YtkgngggppcmpfaaW.PrintMore Go.Proofs.Ytkgngggppcmpfaa.X
attribute [local go_sem] max2_int min2_int max_two min_two max_three min_three max_four min_four
set_option linter.unusedVariables false
set_option linter.unusedSimpArgs false
def spec_tgIsWord.f (k : Nat) (l0_0 : List Int) (l1 : List Int) : Option (Bool) := if (l1.length : Int) ≤ 100 then ((spec_l1All.f k l1 0 (wrap64 ((l0_0.length : Int) - 1))).bind fun t519 => (some t519)) else (some false)
theorem spec_tgIsWord.mono : ∀ a0 a1 k, LeO (spec_tgIsWord.f k a0 a1) (spec_tgIsWord.f (k + 1) a0 a1) := by
 intro a0 a1 k;unfold spec_tgIsWord.f
 repeat' first
  |(with_reducible exact spec_l1All.mono _ _ _ _)
  |(with_reducible exact LeO.refl _)
  |(with_reducible exact LeO.none _)
  |(with_reducible refine LeO.ite ?_ ?_)
  |(with_reducible refine LeO.bind ?_ (fun _=> ?_))
  |exact spec_l1All.mono _ _ _ _
  |exact LeO.none _
  |refine LeO.ite ?_ ?_
  |refine LeO.bind ?_ (fun _=> ?_)
set_option maxHeartbeats 8000000 in
set_option maxRecDepth 100000 in
theorem spec_tgIsWord.calls (k : Nat) (A0_0 : Option Addr) (c0_0 : Nat) (l0_0 : List Int) (A1 : Option Addr) (c1 : Nat) (l1 : List Int) (r : Bool) (w : World) (hr0_0 : Kd.C (Kd.int .i64) w A0_0 l0_0.length l0_0) (hc0_0 : l0_0.length ≤ c0_0) (hr1 : Kd.C (Kd.int .i64) w A1 l1.length l1) (hc1 : l1.length ≤ c1) (h : spec_tgIsWord.f k l0_0 l1 = some r) :
 Calls Try.prog 86 #[.agg #[.slice A0_0 l0_0.length c0_0], .slice A1 l1.length c1] w fun e w'=>e= .returned (.bool r)∧Below w.heap.size w w':=by
 have hu26:=Try.underlying26;have HR0_0:=Aside0.mk hr0_0;have HC0_0:=Aside0.mk hc0_0;clear hr0_0 hc0_0;have HR1:=Aside0.mk hr1;have HC1:=Aside0.mk hc1;clear hr1 hc1;have HB:=Aside0.mk (Below.refl w.heap.size w);have H:(if (l1.length:Int)≤100 then ((spec_l1All.f k l1 0 (wrap64 ((l0_0.length:Int) - 1))).bind fun t519=>(some t519)) else (some false))=some r:=h;clear h
 by_cases c3:(l1.length:Int)≤100
 ·
  rw [if_pos c3] at H;have c3b0:=decide_eq_true c3;have c3b1:decide (l1.length≤100)=true:=decide_eq_true (by omega);clear c3;obtain ⟨t519,A4,H⟩:=bs H;(try dsimp only at H)
  obtain rfl:=Option.some.inj H;go_enter Try.func86,Try.ntmps86;go_wp2_with (first|((with_reducible refine gate_dst (N:=2) rfl ?_);(try (refine gate_guard (by rfl) ?_;dsimp only));refine bE (N:=2) (cs:= #[.slice A0_0 l0_0.length c0_0]) (t:=26) ?_;intro gb518 hg w5 hbox hb;have BK518:=Aside0.mk (hbox);have GW518:=Aside0.mk ((by rw [hg];exact (below_size (uB HB)):w.heap.size≤gb518));have GE518:=GW518;replace HB:=Aside0.mk (below_step (uB HB) hb);clear hb hbox hg;have hcz6_0:=bC BK518;have hfz6_0:=blk_frozen BK518.out 0)|(go_at_call 121;(with_reducible refine (spec_l1All.calls k _ _ l1 0 (wrap64 ((l0_0.length:Int) - 1)) t519 _ (uD HR1 HB) HC1.out A4.out).mono ?_);rintro e w' ⟨rfl,⟨nd,rfl⟩⟩))
  go_ret
  exact ⟨by first|rfl|(simp [errW_none,errW_some] <;>rfl)|(simp [*,errW_none,errW_some] <;>rfl),uB HB⟩
 ·
  rw [if_neg c3] at H;have c3b0:=decide_eq_false c3;have c3b1:decide (l1.length≤100)=false:=decide_eq_false (by omega);clear c3;obtain rfl:=Option.some.inj H;go_enter Try.func86,Try.ntmps86;go_wp2_with (first|((with_reducible refine gate_dst (N:=2) rfl ?_);(try (refine gate_guard (by rfl) ?_;dsimp only));refine bE (N:=2) (cs:= #[.slice A0_0 l0_0.length c0_0]) (t:=26) ?_;intro gb518 hg w7 hbox hb;have BK518:=Aside0.mk (hbox);have GW518:=Aside0.mk ((by rw [hg];exact (below_size (uB HB)):w.heap.size≤gb518));have GE518:=GW518;replace HB:=Aside0.mk (below_step (uB HB) hb);clear hb hbox hg))
  go_ret
  exact ⟨by first|rfl|(simp [errW_none,errW_some] <;>rfl)|(simp [*,errW_none,errW_some] <;>rfl),uB HB⟩
mutual
def spec_ToggleNumbers.j0 : Nat → List Int → Int → List Int → Bool → List Int → Option (List Int × Bool)
 |0,_,_,_,_,_=>none
 |k+1,x1,x2,x3,x23,x521000=>if x23=true then (some (([] :List Int),false)) else ((spec_l1Own.f x1).bind fun t523=>(spec_ToggleNumbers.l0 k x2 t523 x3 (x3.length:Int) 0 x521000))
def spec_ToggleNumbers.l0 : Nat → Int → List Int → List Int → Int → Int → List Int → Option (List Int × Bool)
 |0,_,_,_,_,_,_=>none
 |k+1,x2,x10,x26,x27,x28,x521000=>if x28<x27 then (if 0≤x28 then (if x28<(x26.length:Int) then ((spec_pcAt.f k x521000 x10 x2 (rd x26 x28)).bind fun t527=>(spec_ToggleNumbers.l0 k x2 t527 x26 x27 (wrap64 (x28+1)) x521000)) else (none)) else (none)) else (some (x10,true))
end
def spec_ToggleNumbers.f (k : Nat) (l0_0 : List Int) (l1 : List Int) (a2 : Int) (l3 : List Int) : Option (List Int × Bool) := (spec_pcIs.f k l0_0 l1 a2).bind fun t521 => (if t521 = true then ((spec_tgIsWord.f k l0_0 l3).bind fun t522 => (spec_ToggleNumbers.j0 k l1 a2 l3 (!t522) l0_0)) else (spec_ToggleNumbers.j0 k l1 a2 l3 true l0_0))
theorem spec_ToggleNumbers.mono_l : ∀ k, (∀ y0 y1 y2 y3 y4, LeO (spec_ToggleNumbers.j0 k y0 y1 y2 y3 y4) (spec_ToggleNumbers.j0 (k + 1) y0 y1 y2 y3 y4)) ∧ (∀ y0 y1 y2 y3 y4 y5, LeO (spec_ToggleNumbers.l0 k y0 y1 y2 y3 y4 y5) (spec_ToggleNumbers.l0 (k + 1) y0 y1 y2 y3 y4 y5))
 |0=>⟨fun _ _ _ _ _ r h=>by simp [spec_ToggleNumbers.j0] at h,fun _ _ _ _ _ _ r h=>by simp [spec_ToggleNumbers.l0] at h⟩
 |k+1=>by
  obtain ⟨ih0,ih1⟩:=spec_ToggleNumbers.mono_l k;refine ⟨?_,?_⟩
  ·
   intro y0 y1 y2 y3 y4;unfold spec_ToggleNumbers.j0
   repeat' first
   |(with_reducible exact ih0 _ _ _ _ _)
   |(with_reducible exact ih1 _ _ _ _ _ _)
   |(with_reducible exact spec_pcAt.mono _ _ _ _ _)
   |(with_reducible exact spec_pcIs.mono _ _ _ _)
   |(with_reducible exact spec_tgIsWord.mono _ _ _)
   |(with_reducible exact LeO.refl _)
   |(with_reducible exact LeO.none _)
   |(with_reducible refine LeO.ite ?_ ?_)
   |(with_reducible refine LeO.bind ?_ (fun _=> ?_))
   |exact ih0 _ _ _ _ _
   |exact ih1 _ _ _ _ _ _
   |exact spec_pcAt.mono _ _ _ _ _
   |exact spec_pcIs.mono _ _ _ _
   |exact spec_tgIsWord.mono _ _ _
   |exact LeO.none _
   |refine LeO.ite ?_ ?_
   |refine LeO.bind ?_ (fun _=> ?_)
  ·
   intro y0 y1 y2 y3 y4 y5;unfold spec_ToggleNumbers.l0
   repeat' first
   |(with_reducible exact ih0 _ _ _ _ _)
   |(with_reducible exact ih1 _ _ _ _ _ _)
   |(with_reducible exact spec_pcAt.mono _ _ _ _ _)
   |(with_reducible exact spec_pcIs.mono _ _ _ _)
   |(with_reducible exact spec_tgIsWord.mono _ _ _)
   |(with_reducible exact LeO.refl _)
   |(with_reducible exact LeO.none _)
   |(with_reducible refine LeO.ite ?_ ?_)
   |(with_reducible refine LeO.bind ?_ (fun _=> ?_))
   |exact ih0 _ _ _ _ _
   |exact ih1 _ _ _ _ _ _
   |exact spec_pcAt.mono _ _ _ _ _
   |exact spec_pcIs.mono _ _ _ _
   |exact spec_tgIsWord.mono _ _ _
   |exact LeO.none _
   |refine LeO.ite ?_ ?_
   |refine LeO.bind ?_ (fun _=> ?_)
theorem spec_ToggleNumbers.mono : ∀ a0 a1 a2 a3 k, LeO (spec_ToggleNumbers.f k a0 a1 a2 a3) (spec_ToggleNumbers.f (k + 1) a0 a1 a2 a3) := by
 intro a0 a1 a2 a3 k;obtain ⟨ih0,ih1⟩:=spec_ToggleNumbers.mono_l k;unfold spec_ToggleNumbers.f
 repeat' first
  |(with_reducible exact ih0 _ _ _ _ _)
  |(with_reducible exact ih1 _ _ _ _ _ _)
  |(with_reducible exact spec_pcAt.mono _ _ _ _ _)
  |(with_reducible exact spec_pcIs.mono _ _ _ _)
  |(with_reducible exact spec_tgIsWord.mono _ _ _)
  |(with_reducible exact LeO.refl _)
  |(with_reducible exact LeO.none _)
  |(with_reducible refine LeO.ite ?_ ?_)
  |(with_reducible refine LeO.bind ?_ (fun _=> ?_))
  |exact ih0 _ _ _ _ _
  |exact ih1 _ _ _ _ _ _
  |exact spec_pcAt.mono _ _ _ _ _
  |exact spec_pcIs.mono _ _ _ _
  |exact spec_tgIsWord.mono _ _ _
  |exact LeO.none _
  |refine LeO.ite ?_ ?_
  |refine LeO.bind ?_ (fun _=> ?_)
set_option maxHeartbeats 8000000 in
set_option maxRecDepth 100000 in
theorem spec_ToggleNumbers.calls (k : Nat) (A0_0 : Option Addr) (c0_0 : Nat) (l0_0 : List Int) (A1 : Option Addr) (c1 : Nat) (l1 : List Int) (a2 : Int) (A3 : Option Addr) (c3 : Nat) (l3 : List Int) (r1 : List Int) (r2 : Bool) (w : World) (hr0_0 : Kd.C (Kd.int .i64) w A0_0 l0_0.length l0_0) (hc0_0 : l0_0.length ≤ c0_0) (hr1 : Kd.C (Kd.int .i64) w A1 l1.length l1) (hc1 : l1.length ≤ c1) (hr3 : Kd.C (Kd.int .i64) w A3 l3.length l3) (hc3 : l3.length ≤ c3) (h : spec_ToggleNumbers.f k l0_0 l1 a2 l3 = some (r1, r2)) :
 Calls Try.prog 26 #[.agg #[.slice A0_0 l0_0.length c0_0], .slice A1 l1.length c1, .int .i64 a2, .slice A3 l3.length c3] w fun e w'=> ∃ v0_:Value,e= .returned (.tuple #[v0_, .bool r2])∧Kd.R (Kd.int .i64) 3 w' w.heap.size (fun _=>True) v0_ r1∧Below w.heap.size w w':=by
 have hu26:=Try.underlying26;have HR0_0:=Aside0.mk hr0_0;have HC0_0:=Aside0.mk hc0_0;clear hr0_0 hc0_0;have HR1:=Aside0.mk hr1;have HC1:=Aside0.mk hc1;clear hr1 hc1;have HR3:=Aside0.mk hr3;have HC3:=Aside0.mk hc3;clear hr3 hc3;have HB:=Aside0.mk (Below.refl w.heap.size w);have H:((spec_pcIs.f k l0_0 l1 a2).bind fun t521=>(if t521=true then ((spec_tgIsWord.f k l0_0 l3).bind fun t522=>(spec_ToggleNumbers.j0 k l1 a2 l3 (!t522) l0_0)) else (spec_ToggleNumbers.j0 k l1 a2 l3 true l0_0)))=some (r1,r2):=h;clear h;have HC5:=Aside0.mk H;clear H;go_enter Try.func26,Try.ntmps26;go_upto_region 1 with (first|(refine bE (N:=4) (cs:= #[.slice A0_0 l0_0.length c0_0]) (t:=26) ?_;intro gb520 hg w6 hbox hb;have BK520:=Aside0.mk (hbox);have GW520:=Aside0.mk ((by rw [hg];exact (below_size (uB HB)):w.heap.size≤gb520));have GE520:=GW520;replace HB:=Aside0.mk (below_step (uB HB) hb);clear hb hbox hg))
 (try simp only [Act.put,List.setIfInBounds_toArray,List.set_cons_zero,List.set_cons_succ])
 go_cut [23] (fun v23 wc=> ∃ (kq:Nat) (x23_4:Bool),v23= .bool x23_4∧Aside0 (spec_ToggleNumbers.j0 kq l1 a2 l3 x23_4 l0_0=some (r1,r2))∧Aside0 (kq≤k)∧Aside0 (wc.heap[gb520]? =some (.cells #[(.slice A0_0 l0_0.length c0_0)] 26 (0,0)))∧Aside0 (Below w.heap.size w wc))
 case first=>
  have H:=HC5.out;clear HC5;obtain ⟨t521,A7,H⟩:=bs H;(try dsimp only at H)
  by_cases c8:t521=true
  ·
   subst c8;rw [if_pos rfl] at H;obtain ⟨t522,A9,H⟩:=bs H;(try dsimp only at H)
   have H':=Aside0.mk H;clear H;have hcz10_0:=bC BK520;have hfz10_0:=blk_frozen BK520.out 0;go_wp2_with (first|(refine gA (some 16) Try.func69 #[.agg #[.slice A0_0 l0_0.length c0_0], .slice A1 l1.length c1, .int .i64 a2] ?_;(with_reducible refine (spec_pcIs.calls k _ _ l0_0 _ _ l1 a2 true _ (uD HR0_0 HB) HC0_0.out (uD HR1 HB) HC1.out A7.out).mono ?_);rintro e w11 ⟨rfl,hb⟩;refine ⟨_,rfl,?_⟩;replace BK520:=Aside0.mk (blk_below (uK BK520) hb);replace HB:=Aside0.mk (below_step (uB HB) hb);(try clear hb);have hcz12_0:=bC BK520;have hfz12_0:=blk_frozen BK520.out 0)|(go_at_call 86;(with_reducible refine (spec_tgIsWord.calls k _ _ l0_0 _ _ l3 t522 _ (uD HR0_0 HB) HC0_0.out (uD HR3 HB) HC3.out A9.out).mono ?_);rintro e w13 ⟨rfl,hb⟩;replace BK520:=Aside0.mk (blk_below (uK BK520) hb);replace HB:=Aside0.mk (below_step (uB HB) hb);(try clear hb)))
   go_meet
   case rel=>exact ⟨_,(!t522),(by first|rfl|(simp;done)|(simp [*];done)),H',⟨by first|omega|exact Nat.le_refl _⟩,⟨uK BK520⟩,⟨uB HB⟩⟩
  ·
   replace c8:=Bool.eq_false_iff.mpr c8;subst c8;rw [if_neg (show ¬ (false=true) by decide)] at H;have H':=Aside0.mk H;clear H;have hcz14_0:=bC BK520;have hfz14_0:=blk_frozen BK520.out 0;go_wp2_with (first|(refine gA (some 16) Try.func69 #[.agg #[.slice A0_0 l0_0.length c0_0], .slice A1 l1.length c1, .int .i64 a2] ?_;(with_reducible refine (spec_pcIs.calls k _ _ l0_0 _ _ l1 a2 false _ (uD HR0_0 HB) HC0_0.out (uD HR1 HB) HC1.out A7.out).mono ?_);rintro e w15 ⟨rfl,hb⟩;refine ⟨_,rfl,?_⟩;replace BK520:=Aside0.mk (blk_below (uK BK520) hb);replace HB:=Aside0.mk (below_step (uB HB) hb);(try clear hb)))
   go_meet
   case rel=>exact ⟨_,(true),(by first|rfl|(simp;done)|(simp [*];done)),H',⟨by first|omega|exact Nat.le_refl _⟩,⟨uK BK520⟩,⟨uB HB⟩⟩
 case rest=>
  clear HC5
  try clear c1
  try clear c2
  try clear p2
  try clear c3
  try clear c6
  try clear c8
  try clear hcz10_0
  try clear hcz12_0
  try clear hcz14_0
  try clear hfz10_0
  try clear hfz12_0
  try clear hfz14_0
  obtain ⟨kq,x23_4,rfl,HA,HJ4,BK520,HB⟩:=hcut;cases kq with
  |zero=>exact absurd HA.out (by simp [spec_ToggleNumbers.j0])
  |succ kj4=>
   have H:=HA.out;clear HA;simp only [spec_ToggleNumbers.j0] at H
   by_cases c16:x23_4=true
   ·
    subst c16;rw [if_pos rfl] at H;simp only [Option.some.injEq,Prod.mk.injEq] at H;obtain ⟨rfl,rfl⟩:=H;go_wp2
    go_ret2
    exact ⟨_,by first|rfl|(simp [errW_none,errW_some] <;>rfl)|(simp [*,errW_none,errW_some] <;>rfl),by first|exact Kd.R_nil _ _ _ _ _|exact Kd.N_nil _ _ _ _ _|exact Kd.V_nil _ _ _ _ _|exact Kd.Q_nil _ _ _ _ _|exact Kd.S_nil _ _ _ _ _,uB HB⟩
   ·
    replace c16:=Bool.eq_false_iff.mpr c16;subst c16;rw [if_neg (show ¬ (false=true) by decide)] at H;obtain ⟨t523,A17,H⟩:=bs H;(try dsimp only at H)
    have H':=Aside0.mk H;clear H;go_wp2_with (first|(refine gA (some 25) Try.func70 #[.slice A1 l1.length c1] ?_;(with_reducible refine (spec_l1Own.calls _ _ l1 t523 _ (uD HR1 HB) HC1.out A17.out).mono ?_);rintro e w18 ⟨v524,rfl,ho0,hb⟩;refine ⟨_,rfl,?_⟩;have HO525:=Aside0.mk (Kd.R_lower ho0 (below_size (uB HB)));replace BK520:=Aside0.mk (blk_below (uK BK520) hb);replace HB:=Aside0.mk (below_step (uB HB) hb);(try clear hb ho0)))
    go_loopg [10,28] kj4 (fun kq v10 v28 w'=> ∃ (x10_2:List Int) (x28_2:Int),v28= .int .i64 x28_2∧Aside0 (spec_ToggleNumbers.l0 kq a2 x10_2 l3 (l3.length:Int) x28_2 l0_0=some (r1,r2))∧Aside0 (kq≤kj4)∧Aside0 (Kd.R (Kd.int .i64) 3 w' w.heap.size (fun _=>True) v10 x10_2)∧Aside0 (w'.heap[gb520]? =some (.cells #[(.slice A0_0 l0_0.length c0_0)] 26 (0,0)))∧Aside0 (Below w.heap.size w w'))
    case atStart=>exact ⟨(t523),(0),(by first|rfl|(simp;done)|(simp [*];done)),H',⟨Nat.le_refl _⟩,⟨uR HO525⟩,⟨uK BK520⟩,⟨uB HB⟩⟩
    case round=>
     clear H'
     try clear c1
     try clear c2
     try clear p2
     try clear c3
     try clear c6
     try clear c7
     try clear c8
     try clear c16
     try clear hcz10_0
     try clear hcz12_0
     try clear hcz14_0
     try clear hfz10_0
     try clear hfz12_0
     try clear hfz14_0
     try clear p2
     obtain ⟨x10_2,x28_2,rfl,HA,HK2,HO_10,BK520,HB⟩:=hrel;cases gk with
     |zero=>exact absurd HA.out (by simp [spec_ToggleNumbers.l0])
     |succ k2=>
      have H:=HA.out;clear HA;simp only [spec_ToggleNumbers.l0] at H
      by_cases c19:x28_2<(l3.length:Int)
      ·
       rw [if_pos c19] at H;have c19b0:=decide_eq_true c19;clear c19
       by_cases c20:0≤x28_2
       ·
        rw [if_pos c20] at H;have c20b0:=decide_eq_true c20;clear c20
        by_cases c21:x28_2<(l3.length:Int)
        ·
         rw [if_pos c21] at H;have c21b0:=decide_eq_true c21;clear c21;obtain ⟨t527,A22,H⟩:=bs H;(try dsimp only at H)
         have H':=Aside0.mk H;clear H;have p526:0≤(x28_2:Int):=of_decide_eq_true (by first|(with_reducible assumption)|assumption);have q526:x28_2<(l3.length:Int):=of_decide_eq_true (by first|(with_reducible assumption)|assumption);obtain ⟨ad526,e526,hx526_0⟩:=Kd.at_int HR3.out x28_2 p526 q526;cases e526;replace hx526_0:=(HB.out.cell (World.block_lt_of_cell? w _ hx526_0)).trans hx526_0;replace p526:=eq_true p526;replace q526:=eq_true q526;have hcz23_0:=bC BK520;have hfz23_0:=blk_frozen BK520.out 0;obtain ⟨Ao24,co24,eo24⟩:=Kd.R_slice HO_10.out;subst eo24;go_wp2_with (first|(refine gA (some 36) Try.func80 #[.agg #[.slice A0_0 l0_0.length c0_0], .slice Ao24 x10_2.length co24, .int .i64 a2, .int .i64 (rd l3 x28_2)] ?_;(with_reducible refine (spec_pcAt.calls k2 _ _ l0_0 _ _ x10_2 a2 (rd l3 x28_2) t527 _ (uD HR0_0 HB) HC0_0.out (uE HO_10) ?side4 A22.out).mono ?_);(case side4=>exact (Kd.R_reads' HO_10.out).2.1);rintro e w25 ⟨v528,rfl,ho0,hb⟩;refine ⟨_,rfl,?_⟩;have HO529:=Aside0.mk (Kd.R_lower (Kd.R_new' ho0 (Kd.R_lt (uR HO_10))) (below_size (uB HB)));replace HO_10:=Aside0.mk (Kd.R_elder' (uR HO_10) (Kd.R_base ho0) hb);replace BK520:=Aside0.mk (blk_below (uK BK520) hb);replace HB:=Aside0.mk (below_step (uB HB) hb);(try clear hb ho0)));go_roundg k2
         case measure=>have:=HJ4.out;have:=HK2.out;omega
         case rel=>exact ⟨(t527),(wrap64 (x28_2+1)),(by first|rfl|(simp;done)|(simp [*];done)),H',⟨by have:=HJ4.out;have:=HK2.out;omega⟩,⟨by (with_reducible repeat (first|apply Kd.R_alloc|apply Kd.R_drewN|apply Kd.R_drew));exact Kd.R_mono HO529.out (fun _ hk=>trivial)⟩,⟨uK BK520⟩,⟨uB HB⟩⟩
        ·
         rw [if_neg c21] at H;exact absurd H (by simp)
       ·
        rw [if_neg c20] at H;exact absurd H (by simp)
      ·
       rw [if_neg c19] at H;have c19b0:=decide_eq_false c19;clear c19;simp only [Option.some.injEq,Prod.mk.injEq] at H;obtain ⟨rfl,rfl⟩:=H;go_wp2
       go_ret2
       exact ⟨_,by first|rfl|(simp [errW_none,errW_some] <;>rfl)|(simp [*,errW_none,errW_some] <;>rfl),uR HO_10,uB HB⟩
def spec_DrawIsArray.f (k : Nat) (l0 : List Int) : Option (List Int × List Int × Int) := (spec_l1Cur_array.f k l0 0 0 10).bind fun bt532 => (some (bt532.1, bt532.2.1, bt532.2.2.1))
theorem spec_DrawIsArray.mono : ∀ a0 k, LeO (spec_DrawIsArray.f k a0) (spec_DrawIsArray.f (k + 1) a0) := by
 intro a0 k;unfold spec_DrawIsArray.f
 repeat' first
  |(with_reducible exact spec_l1Cur_array.mono _ _ _ _ _)
  |(with_reducible exact LeO.refl _)
  |(with_reducible exact LeO.none _)
  |(with_reducible refine LeO.ite ?_ ?_)
  |(with_reducible refine LeO.bind ?_ (fun _=> ?_))
  |exact spec_l1Cur_array.mono _ _ _ _ _
  |exact LeO.none _
  |refine LeO.ite ?_ ?_
  |refine LeO.bind ?_ (fun _=> ?_)
set_option maxHeartbeats 8000000 in
set_option maxRecDepth 100000 in
theorem spec_DrawIsArray.calls (k : Nat) (A0 : Option Addr) (c0 : Nat) (l0 : List Int) (r1 : List Int) (r2 : List Int) (r3 : Int) (w : World) (hr0 : Kd.C (Kd.int .u8) w A0 l0.length l0) (hc0 : l0.length ≤ c0) (h : spec_DrawIsArray.f k l0 = some (r1, r2, r3)) :
 Calls Try.prog 73 #[.slice A0 l0.length c0] w fun e w'=> ∃ v0_ v1_:Value,e= .returned (.tuple #[.agg #[v0_],v1_, .int .i64 r3])∧Kd.R (Kd.int .i64) 3 w' w.heap.size (fun k_=>some k_≠(v1_:Value).ownBlock) v0_ r1∧Kd.R (Kd.int .i64) 3 w' w.heap.size (fun k_=>some k_≠(v0_:Value).ownBlock) v1_ r2∧Below w.heap.size w w':=by
 have hu26:=Try.underlying26;have hu67:=Try.underlying67;have HR0:=Aside0.mk hr0;have HC0:=Aside0.mk hc0;clear hr0 hc0;have HB:=Aside0.mk (Below.refl w.heap.size w);have H:((spec_l1Cur_array.f k l0 0 0 10).bind fun bt532=>(some (bt532.1,bt532.2.1,bt532.2.2.1)))=some (r1,r2,r3):=h;clear h;obtain ⟨⟨t532,t535,t538,t539,t540⟩,A2,H⟩:=bs H;(try dsimp only at H)
 simp only [Option.some.injEq,Prod.mk.injEq] at H;obtain ⟨rfl,rfl,rfl⟩:=H;go_enter Try.func73,Try.ntmps73;go_wp2_with (first|((with_reducible refine gate_dst (N:=2) rfl ?_);refine box_event ?hg (N:=2) ?hd (cs:= #[.slice none 0 0]) (t:=26) ?hr ?_;(case hd=>rfl);(case hg=>rfl);(case hr=>first|(go_simp;done)|(go_simp;rfl));intro gb530 hg w3 hbox hb;have BK530:=Aside0.mk (hbox);have GW530:=Aside0.mk ((by rw [hg];exact (below_size (by repeat (first|(with_reducible first|exact HB.out|apply below_alloc|apply pw_below_drewN|apply below_drew1)|exact HB.out))):w.heap.size≤gb530));have GE530:=GW530;replace HB:=Aside0.mk (below_step (by repeat (first|(with_reducible first|exact HB.out|apply below_alloc|apply pw_below_drewN|apply below_drew1)|exact HB.out)) hb);clear hb hbox hg)|((with_reducible refine gate_dst (N:=8) rfl ?_);refine box_event ?hg (N:=8) ?hd (cs:= #[.slice A0 l0.length c0, .int .i64 0, .int .u64 0]) (t:=67) ?hr ?_;(case hd=>rfl);(case hg=>rfl);(case hr=>first|(go_simp;done)|(go_simp;rfl));intro gb531 hg w4 hbox hb;have HI531:=Aside0.mk ((⟨_,_,hbox,(by rw [hg];exact (below_size (by repeat (first|(with_reducible first|exact HB.out|apply below_alloc|apply pw_below_drewN|apply below_drew1|refine below_set ?_ GE530.out)|exact HB.out))):w.heap.size≤gb531),HR0.out⟩:IsS67 w _ gb531 l0 0 0));have GW531:=Aside0.mk ((by rw [hg];exact (below_size (by repeat (first|(with_reducible first|exact HB.out|apply below_alloc|apply pw_below_drewN|apply below_drew1|refine below_set ?_ GE530.out)|exact HB.out))):w.heap.size≤gb531));have GE531:=GW531;replace HB:=Aside0.mk (below_step (by repeat (first|(with_reducible first|exact HB.out|apply below_alloc|apply pw_below_drewN|apply below_drew1|refine below_set ?_ GE530.out)|exact HB.out)) hb);have NB530_531:=Aside0.mk ((by rw [hg];exact Nat.ne_of_lt (blk_lt (g:=gb530) (o:= .cells #[.slice none 0 0] 26 (0,0)) (by (with_reducible repeat (first|refine blk_drewN ?_ _|refine blk_drew ?_|refine blk_alloc ?_ _));exact BK530.out)):gb530≠gb531));have NB531_530:=Aside0.mk ((by rw [hg];exact Nat.ne_of_gt (blk_lt (g:=gb530) (o:= .cells #[.slice none 0 0] 26 (0,0)) (by (with_reducible repeat (first|refine blk_drewN ?_ _|refine blk_drew ?_|refine blk_alloc ?_ _));exact BK530.out)):gb531≠gb530));replace BK530:=Aside0.mk (blk_below (g:=gb530) (o:= .cells #[.slice none 0 0] 26 (0,0)) (by (with_reducible repeat (first|refine blk_drewN ?_ _|refine blk_drew ?_|refine blk_alloc ?_ _));exact BK530.out) hb);clear hb hbox hg)|((with_reducible refine gate_callee (f:=61) rfl ?_);refine goesL_ (some 10) rfl rfl Try.func61 (by kernel_rfl) rfl #[.pointer (some ⟨gb531,0,none⟩), .int .i64 10] rfl (by (try simp only [List.map_toArray,List.map_cons,List.map_nil]);first|done|rfl|(simp only [List.length_drop,List.length_take];rfl)) ?_;(with_reducible refine (spec_l1Cur_array.calls k gb531 l0 0 0 10 t532 t535 t538 t539 t540 w _ ?side1 ?side2 A2.out).mono ?_);(case side1=>repeat (first|(with_reducible first|exact HI531.out|apply IsS67.alloc|apply IsS67.drewN|apply IsS67.drew|apply IsS67.set_1|apply IsS67.set_2|refine IsS67.far ?_ NB531_530.out _)|exact HI531.out));(case side2=>repeat (first|(with_reducible first|exact HB.out|apply below_alloc|apply pw_below_drewN|apply below_drew1|refine below_set ?_ (IsS67.ge HI531.out)|refine below_set ?_ GE530.out)|exact HB.out));rintro e w5 ⟨v533,v536,rfl,ho0,ho1,hi,hb,hk⟩;refine ⟨_,rfl,?_⟩;replace BK530:=Aside0.mk (KeepBut.blk hk (g':=gb530) (o:= .cells #[.slice none 0 0] 26 (0,0)) (by (with_reducible repeat (first|refine blk_drewN ?_ _|refine blk_drew ?_|refine blk_alloc ?_ _));exact BK530.out) NB530_531.out (by simp));have HO534:=Aside0.mk (Kd.R_lower ho0 (below_size (by repeat (first|(with_reducible first|exact HB.out|apply below_alloc|apply pw_below_drewN|apply below_drew1|refine below_set ?_ (IsS67.ge HI531.out)|refine below_set ?_ GE530.out)|exact HB.out))));have HO537:=Aside0.mk (Kd.R_lower ho1 (below_size (by repeat (first|(with_reducible first|exact HB.out|apply below_alloc|apply pw_below_drewN|apply below_drew1|refine below_set ?_ (IsS67.ge HI531.out)|refine below_set ?_ GE530.out)|exact HB.out))));replace HB:=Aside0.mk (hb);replace HI531:=Aside0.mk (hi);(try clear hb);(try clear hb2);(try clear hk);(try clear hi);(try clear ho0);(try clear ho1);obtain ⟨Ao6,co6,eo6⟩:=Kd.R_slice HO534.out;subst eo6;have hnb7:=NB530_531.out;have hnc7:=NB531_530.out;have hcz8_0:w5.cell? ⟨gb530,0,none⟩=some (.slice none 0 0):=(blk_cell BK530.out 0).trans rfl;have hfz8_0:=blk_frozen BK530.out 0));refine bodyPost_ret (results_ctt rfl _ _ gb530 26 #[.slice Ao6 t532.length co6] (0,0) _ rfl (by (with_reducible repeat (first|refine blk_drewN ?_ _|refine blk_drew ?_|refine blk_alloc ?_ _));refine blk_put (cs:= #[.slice none 0 0]) ?_ 0 _ rfl;(with_reducible repeat (first|refine blk_drewN ?_ _|refine blk_drew ?_|refine blk_alloc ?_ _));exact BK530.out) Try.underlying26 rfl (by kernel_rfl)) rfl ?_
 exact ⟨_,_,by first|rfl|(simp [errW_none,errW_some] <;>rfl)|(simp [*,errW_none,errW_some] <;>rfl),by (with_reducible repeat (first|apply Kd.R_alloc|apply Kd.R_drewN|apply Kd.R_drew));exact Kd.R_mono (Kd.R_far (p:=⟨gb530,0,none⟩) (Kd.R_types HO534.out BK530.out (by decide)) (fun _ hk=>hk.2) (.slice Ao6 t532.length co6)) (fun _ hk=>hk.1),by (with_reducible repeat (first|apply Kd.R_alloc|apply Kd.R_drewN|apply Kd.R_drew));exact Kd.R_mono (Kd.R_far (p:=⟨gb530,0,none⟩) (Kd.R_types HO537.out BK530.out (by decide)) (fun _ hk=>hk.2) (.slice Ao6 t532.length co6)) (fun _ hk=>hk.1),(IsS67.vB HB)⟩
def spec_DrawRowArray.f (k : Nat) (l0 : List Int) : Option (List Int × List Int × Int) := (spec_DrawIsArray.f k l0).bind fun bt542 => (some (bt542.1, bt542.2.1, bt542.2.2))
theorem spec_DrawRowArray.mono : ∀ a0 k, LeO (spec_DrawRowArray.f k a0) (spec_DrawRowArray.f (k + 1) a0) := by
 intro a0 k;unfold spec_DrawRowArray.f
 repeat' first
  |(with_reducible exact spec_DrawIsArray.mono _ _)
  |(with_reducible exact LeO.refl _)
  |(with_reducible exact LeO.none _)
  |(with_reducible refine LeO.ite ?_ ?_)
  |(with_reducible refine LeO.bind ?_ (fun _=> ?_))
  |exact spec_DrawIsArray.mono _ _
  |exact LeO.none _
  |refine LeO.ite ?_ ?_
  |refine LeO.bind ?_ (fun _=> ?_)
set_option maxHeartbeats 8000000 in
set_option maxRecDepth 100000 in
theorem spec_DrawRowArray.calls (k : Nat) (A0 : Option Addr) (c0 : Nat) (l0 : List Int) (r1 : List Int) (r2 : List Int) (r3 : Int) (w : World) (hr0 : Kd.C (Kd.int .u8) w A0 l0.length l0) (hc0 : l0.length ≤ c0) (h : spec_DrawRowArray.f k l0 = some (r1, r2, r3)) :
 Calls Try.prog 27 #[.slice A0 l0.length c0] w fun e w'=> ∃ v0_ v1_:Value,e= .returned (.tuple #[.agg #[v0_],v1_, .int .i64 r3])∧Kd.R (Kd.int .i64) 3 w' w.heap.size (fun k_=>some k_≠(v1_:Value).ownBlock) v0_ r1∧Kd.R (Kd.int .i64) 3 w' w.heap.size (fun k_=>some k_≠(v0_:Value).ownBlock) v1_ r2∧Below w.heap.size w w':=by
 have hu26:=Try.underlying26;have HR0:=Aside0.mk hr0;have HC0:=Aside0.mk hc0;clear hr0 hc0;have HB:=Aside0.mk (Below.refl w.heap.size w);have H:((spec_DrawIsArray.f k l0).bind fun bt542=>(some (bt542.1,bt542.2.1,bt542.2.2)))=some (r1,r2,r3):=h;clear h;obtain ⟨⟨t542,t545,t548⟩,A2,H⟩:=bs H;(try dsimp only at H)
 simp only [Option.some.injEq,Prod.mk.injEq] at H;obtain ⟨rfl,rfl,rfl⟩:=H;go_enter Try.func27,Try.ntmps27;go_wp2_with (first|(refine bE (N:=2) (cs:= #[.slice none 0 0]) (t:=26) ?_;intro gb541 hg w3 hbox hb;have BK541:=Aside0.mk (hbox);have GW541:=Aside0.mk ((by rw [hg];exact (below_size (uB HB)):w.heap.size≤gb541));have GE541:=GW541;replace HB:=Aside0.mk (below_step (uB HB) hb);clear hb hbox hg)|(refine gA (some 6) Try.func73 #[.slice A0 l0.length c0] ?_;(with_reducible refine (spec_DrawIsArray.calls k _ _ l0 t542 t545 t548 _ (uD HR0 HB) HC0.out A2.out).mono ?_);rintro e w4 ⟨v543,v546,rfl,ho0,ho1,hb⟩;refine ⟨_,rfl,?_⟩;have HO544:=Aside0.mk (Kd.R_lower ho0 (below_size (vB HB)));have HO547:=Aside0.mk (Kd.R_lower ho1 (below_size (vB HB)));replace BK541:=Aside0.mk (blk_below (uK BK541) hb);replace HB:=Aside0.mk (below_step (vB HB) hb);(try clear hb ho0 ho1);obtain ⟨Ao5,co5,eo5⟩:=Kd.R_slice HO544.out;subst eo5;have hcz6_0:=bC BK541;have hfz6_0:=blk_frozen BK541.out 0));refine bodyPost_ret (results_ctt rfl _ _ gb541 26 #[.slice Ao5 t542.length co5] (0,0) _ rfl (by (with_reducible repeat (first|refine blk_drewN ?_ _|refine blk_drew ?_|refine blk_alloc ?_ _));refine blk_put (cs:= #[.slice none 0 0]) ?_ 0 _ rfl;(with_reducible repeat (first|refine blk_drewN ?_ _|refine blk_drew ?_|refine blk_alloc ?_ _));exact BK541.out) Try.underlying26 rfl (by kernel_rfl)) rfl ?_;exact ⟨_,_,by first|rfl|(simp [errW_none,errW_some] <;>rfl)|(simp [*,errW_none,errW_some] <;>rfl),by (with_reducible repeat (first|apply Kd.R_alloc|apply Kd.R_drewN|apply Kd.R_drew));exact Kd.R_mono (Kd.R_far (p:=⟨gb541,0,none⟩) (Kd.R_types HO544.out BK541.out (by decide)) (fun _ hk=>hk.2) (.slice Ao5 t542.length co5)) (fun _ hk=>hk.1),by (with_reducible repeat (first|apply Kd.R_alloc|apply Kd.R_drewN|apply Kd.R_drew));exact Kd.R_mono (Kd.R_far (p:=⟨gb541,0,none⟩) (Kd.R_types HO547.out BK541.out (by decide)) (fun _ hk=>hk.2) (.slice Ao5 t542.length co5)) (fun _ hk=>hk.1),(vB HB)⟩
def spec_pcRow.l0 : Nat → Int → List Int → Int → List Int → Option (List Int)
 |0,_,_,_,_=>none
 |k+1,x2,x7,x8,x550000=>if x8 ≥ 0 then ((spec_pcAt.f k x550000 x7 x2 x8).bind fun t553=>(spec_pcRow.l0 k x2 t553 (wrap64 (x8 - 1)) x550000)) else (some x7)
def spec_pcRow.f (k : Nat) (l0_0 : List Int) (l1 : List Int) (a2 : Int) : Option (List Int) := (spec_l1Own.f l1).bind fun t550 => (spec_pcRow.l0 k a2 t550 (wrap64 ((l0_0.length : Int) - 1)) l0_0)
theorem spec_pcRow.mono_l : ∀ k, (∀ y0 y1 y2 y3, LeO (spec_pcRow.l0 k y0 y1 y2 y3) (spec_pcRow.l0 (k + 1) y0 y1 y2 y3))
 |0=>fun _ _ _ _ r h=>by simp [spec_pcRow.l0] at h
 |k+1=>by
  have ih0:=spec_pcRow.mono_l k
  ·
   intro y0 y1 y2 y3;unfold spec_pcRow.l0
   repeat' first
   |(with_reducible exact ih0 _ _ _ _)
   |(with_reducible exact spec_pcAt.mono _ _ _ _ _)
   |(with_reducible exact LeO.refl _)
   |(with_reducible exact LeO.none _)
   |(with_reducible refine LeO.ite ?_ ?_)
   |(with_reducible refine LeO.bind ?_ (fun _=> ?_))
   |exact ih0 _ _ _ _
   |exact spec_pcAt.mono _ _ _ _ _
   |exact LeO.none _
   |refine LeO.ite ?_ ?_
   |refine LeO.bind ?_ (fun _=> ?_)
theorem spec_pcRow.mono : ∀ a0 a1 a2 k, LeO (spec_pcRow.f k a0 a1 a2) (spec_pcRow.f (k + 1) a0 a1 a2) := by
 intro a0 a1 a2 k;have ih0:=spec_pcRow.mono_l k;unfold spec_pcRow.f
 repeat' first
  |(with_reducible exact ih0 _ _ _ _)
  |(with_reducible exact spec_pcAt.mono _ _ _ _ _)
  |(with_reducible exact LeO.refl _)
  |(with_reducible exact LeO.none _)
  |(with_reducible refine LeO.ite ?_ ?_)
  |(with_reducible refine LeO.bind ?_ (fun _=> ?_))
  |exact ih0 _ _ _ _
  |exact spec_pcAt.mono _ _ _ _ _
  |exact LeO.none _
  |refine LeO.ite ?_ ?_
  |refine LeO.bind ?_ (fun _=> ?_)
set_option maxHeartbeats 8000000 in
set_option maxRecDepth 100000 in
theorem spec_pcRow.calls (k : Nat) (A0_0 : Option Addr) (c0_0 : Nat) (l0_0 : List Int) (A1 : Option Addr) (c1 : Nat) (l1 : List Int) (a2 : Int) (r : List Int) (w : World) (hr0_0 : Kd.C (Kd.int .i64) w A0_0 l0_0.length l0_0) (hc0_0 : l0_0.length ≤ c0_0) (hr1 : Kd.C (Kd.int .i64) w A1 l1.length l1) (hc1 : l1.length ≤ c1) (h : spec_pcRow.f k l0_0 l1 a2 = some r) :
 Calls Try.prog 71 #[.agg #[.slice A0_0 l0_0.length c0_0], .slice A1 l1.length c1, .int .i64 a2] w fun e w'=> ∃ v0_:Value,e= .returned (v0_)∧Kd.R (Kd.int .i64) 3 w' w.heap.size (fun _=>True) v0_ r∧Below w.heap.size w w':=by
 have hu26:=Try.underlying26;have HR0_0:=Aside0.mk hr0_0;have HC0_0:=Aside0.mk hc0_0;clear hr0_0 hc0_0;have HR1:=Aside0.mk hr1;have HC1:=Aside0.mk hc1;clear hr1 hc1;have HB:=Aside0.mk (Below.refl w.heap.size w);have H:((spec_l1Own.f l1).bind fun t550=>(spec_pcRow.l0 k a2 t550 (wrap64 ((l0_0.length:Int) - 1)) l0_0))=some r:=h;clear h;obtain ⟨t550,A4,H⟩:=bs H;(try dsimp only at H)
 have H':=Aside0.mk H;clear H;go_enter Try.func71,Try.ntmps71;go_wp2_with (first|(refine bE (N:=3) (cs:= #[.slice A0_0 l0_0.length c0_0]) (t:=26) ?_;intro gb549 hg w5 hbox hb;have BK549:=Aside0.mk (hbox);have GW549:=Aside0.mk ((by rw [hg];exact (below_size (uB HB)):w.heap.size≤gb549));have GE549:=GW549;replace HB:=Aside0.mk (below_step (uB HB) hb);clear hb hbox hg)|(refine gA (some 10) Try.func70 #[.slice A1 l1.length c1] ?_;(with_reducible refine (spec_l1Own.calls _ _ l1 t550 _ (uD HR1 HB) HC1.out A4.out).mono ?_);rintro e w6 ⟨v551,rfl,ho0,hb⟩;refine ⟨_,rfl,?_⟩;have HO552:=Aside0.mk (Kd.R_lower ho0 (below_size (uB HB)));replace BK549:=Aside0.mk (blk_below (uK BK549) hb);replace HB:=Aside0.mk (below_step (uB HB) hb);(try clear hb ho0);have hcz7_0:=bC BK549;have hfz7_0:=blk_frozen BK549.out 0))
 go_loopg [7,8] k (fun kq v7 v8 w'=> ∃ (x7_1:List Int) (x8_1:Int),v8= .int .i64 x8_1∧Aside0 (spec_pcRow.l0 kq a2 x7_1 x8_1 l0_0=some r)∧Aside0 (kq≤k)∧Aside0 (Kd.R (Kd.int .i64) 3 w' w.heap.size (fun _=>True) v7 x7_1)∧Aside0 (w'.heap[gb549]? =some (.cells #[(.slice A0_0 l0_0.length c0_0)] 26 (0,0)))∧Aside0 (Below w.heap.size w w'))
 case atStart=>exact ⟨(t550),(wrap64 ((l0_0.length:Int) - 1)),(by first|rfl|(simp;done)|(simp [*];done)),H',⟨Nat.le_refl _⟩,⟨uR HO552⟩,⟨uK BK549⟩,⟨uB HB⟩⟩
 case round=>
  clear H'
  try clear c1
  try clear p2
  try clear p6
  try clear c7
  try clear hcz7_0
  try clear hfz7_0
  obtain ⟨x7_1,x8_1,rfl,HA,HK1,HO_7,BK549,HB⟩:=hrel;cases gk with
  |zero=>exact absurd HA.out (by simp [spec_pcRow.l0])
  |succ k1=>
   have H:=HA.out;clear HA;simp only [spec_pcRow.l0] at H
   by_cases c8:x8_1 ≥ 0
   ·
    rw [if_pos c8] at H;have c8b0:=decide_eq_true c8;clear c8;obtain ⟨t553,A9,H⟩:=bs H;(try dsimp only at H)
    have H':=Aside0.mk H;clear H;have hcz10_0:=bC BK549;have hfz10_0:=blk_frozen BK549.out 0;obtain ⟨Ao11,co11,eo11⟩:=Kd.R_slice HO_7.out;subst eo11;go_wp2_with (first|(refine gA (some 23) Try.func80 #[.agg #[.slice A0_0 l0_0.length c0_0], .slice Ao11 x7_1.length co11, .int .i64 a2, .int .i64 x8_1] ?_;(with_reducible refine (spec_pcAt.calls k1 _ _ l0_0 _ _ x7_1 a2 x8_1 t553 _ (uD HR0_0 HB) HC0_0.out (uE HO_7) ?side4 A9.out).mono ?_);(case side4=>exact (Kd.R_reads' HO_7.out).2.1);rintro e w12 ⟨v554,rfl,ho0,hb⟩;refine ⟨_,rfl,?_⟩;have HO555:=Aside0.mk (Kd.R_lower (Kd.R_new' ho0 (Kd.R_lt (uR HO_7))) (below_size (uB HB)));replace HO_7:=Aside0.mk (Kd.R_elder' (uR HO_7) (Kd.R_base ho0) hb);replace BK549:=Aside0.mk (blk_below (uK BK549) hb);replace HB:=Aside0.mk (below_step (uB HB) hb);(try clear hb ho0)));go_roundg k1
    case measure=>have:=HK1.out;omega
    case rel=>exact ⟨(t553),(wrap64 (x8_1 - 1)),(by first|rfl|(simp;done)|(simp [*];done)),H',⟨by have:=HK1.out;omega⟩,⟨by (with_reducible repeat (first|apply Kd.R_alloc|apply Kd.R_drewN|apply Kd.R_drew));exact Kd.R_mono HO555.out (fun _ hk=>trivial)⟩,⟨uK BK549⟩,⟨uB HB⟩⟩
   ·
    rw [if_neg c8] at H;have c8b0:=decide_eq_false c8;clear c8;obtain rfl:=Option.some.inj H;go_wp2
    go_ret
    exact ⟨_,by first|rfl|(simp [errW_none,errW_some] <;>rfl)|(simp [*,errW_none,errW_some] <;>rfl),uR HO_7,uB HB⟩
def spec_RowArray.f (k : Nat) (l0_0 : List Int) (l1 : List Int) (a2 : Int) : Option (List Int × Bool) := (spec_pcIs.f k l0_0 l1 a2).bind fun t557 => (if t557 = true then ((spec_pcRow.f k l0_0 l1 a2).bind fun t558 => (some (t558, true))) else (some (([] : List Int), false)))
theorem spec_RowArray.mono : ∀ a0 a1 a2 k, LeO (spec_RowArray.f k a0 a1 a2) (spec_RowArray.f (k + 1) a0 a1 a2) := by
 intro a0 a1 a2 k;unfold spec_RowArray.f
 repeat' first
  |(with_reducible exact spec_pcIs.mono _ _ _ _)
  |(with_reducible exact spec_pcRow.mono _ _ _ _)
  |(with_reducible exact LeO.refl _)
  |(with_reducible exact LeO.none _)
  |(with_reducible refine LeO.ite ?_ ?_)
  |(with_reducible refine LeO.bind ?_ (fun _=> ?_))
  |exact spec_pcIs.mono _ _ _ _
  |exact spec_pcRow.mono _ _ _ _
  |exact LeO.none _
  |refine LeO.ite ?_ ?_
  |refine LeO.bind ?_ (fun _=> ?_)
set_option maxHeartbeats 8000000 in
set_option maxRecDepth 100000 in
theorem spec_RowArray.calls (k : Nat) (A0_0 : Option Addr) (c0_0 : Nat) (l0_0 : List Int) (A1 : Option Addr) (c1 : Nat) (l1 : List Int) (a2 : Int) (r1 : List Int) (r2 : Bool) (w : World) (hr0_0 : Kd.C (Kd.int .i64) w A0_0 l0_0.length l0_0) (hc0_0 : l0_0.length ≤ c0_0) (hr1 : Kd.C (Kd.int .i64) w A1 l1.length l1) (hc1 : l1.length ≤ c1) (h : spec_RowArray.f k l0_0 l1 a2 = some (r1, r2)) :
 Calls Try.prog 28 #[.agg #[.slice A0_0 l0_0.length c0_0], .slice A1 l1.length c1, .int .i64 a2] w fun e w'=> ∃ v0_:Value,e= .returned (.tuple #[v0_, .bool r2])∧Kd.R (Kd.int .i64) 3 w' w.heap.size (fun _=>True) v0_ r1∧Below w.heap.size w w':=by
 have hu26:=Try.underlying26;have HR0_0:=Aside0.mk hr0_0;have HC0_0:=Aside0.mk hc0_0;clear hr0_0 hc0_0;have HR1:=Aside0.mk hr1;have HC1:=Aside0.mk hc1;clear hr1 hc1;have HB:=Aside0.mk (Below.refl w.heap.size w);have H:((spec_pcIs.f k l0_0 l1 a2).bind fun t557=>(if t557=true then ((spec_pcRow.f k l0_0 l1 a2).bind fun t558=>(some (t558,true))) else (some (([] :List Int),false))))=some (r1,r2):=h;clear h;obtain ⟨t557,A4,H⟩:=bs H;(try dsimp only at H)
 by_cases c5:t557=true
 ·
  subst c5;rw [if_pos rfl] at H;obtain ⟨t558,A6,H⟩:=bs H;(try dsimp only at H)
  simp only [Option.some.injEq,Prod.mk.injEq] at H;obtain ⟨rfl,rfl⟩:=H;go_enter Try.func28,Try.ntmps28;go_wp2_with (first|(refine bE (N:=3) (cs:= #[.slice A0_0 l0_0.length c0_0]) (t:=26) ?_;intro gb556 hg w7 hbox hb;have BK556:=Aside0.mk (hbox);have GW556:=Aside0.mk ((by rw [hg];exact (below_size (uB HB)):w.heap.size≤gb556));have GE556:=GW556;replace HB:=Aside0.mk (below_step (uB HB) hb);clear hb hbox hg;have hcz8_0:=bC BK556;have hfz8_0:=blk_frozen BK556.out 0)|(refine gA (some 11) Try.func69 #[.agg #[.slice A0_0 l0_0.length c0_0], .slice A1 l1.length c1, .int .i64 a2] ?_;(with_reducible refine (spec_pcIs.calls k _ _ l0_0 _ _ l1 a2 true _ (uD HR0_0 HB) HC0_0.out (uD HR1 HB) HC1.out A4.out).mono ?_);rintro e w9 ⟨rfl,hb⟩;refine ⟨_,rfl,?_⟩;replace BK556:=Aside0.mk (blk_below (uK BK556) hb);replace HB:=Aside0.mk (below_step (uB HB) hb);(try clear hb);have hcz10_0:=bC BK556;have hfz10_0:=blk_frozen BK556.out 0)|(refine gA (some 16) Try.func71 #[.agg #[.slice A0_0 l0_0.length c0_0], .slice A1 l1.length c1, .int .i64 a2] ?_;(with_reducible refine (spec_pcRow.calls k _ _ l0_0 _ _ l1 a2 t558 _ (uD HR0_0 HB) HC0_0.out (uD HR1 HB) HC1.out A6.out).mono ?_);rintro e w11 ⟨v559,rfl,ho0,hb⟩;refine ⟨_,rfl,?_⟩;have HO560:=Aside0.mk (Kd.R_lower ho0 (below_size (uB HB)));replace BK556:=Aside0.mk (blk_below (uK BK556) hb);replace HB:=Aside0.mk (below_step (uB HB) hb);(try clear hb ho0)))
  go_ret2
  exact ⟨_,by first|rfl|(simp [errW_none,errW_some] <;>rfl)|(simp [*,errW_none,errW_some] <;>rfl),uR HO560,uB HB⟩
 ·
  replace c5:=Bool.eq_false_iff.mpr c5;subst c5;rw [if_neg (show ¬ (false=true) by decide)] at H;simp only [Option.some.injEq,Prod.mk.injEq] at H;obtain ⟨rfl,rfl⟩:=H;go_enter Try.func28,Try.ntmps28;go_wp2_with (first|(refine bE (N:=3) (cs:= #[.slice A0_0 l0_0.length c0_0]) (t:=26) ?_;intro gb556 hg w12 hbox hb;have BK556:=Aside0.mk (hbox);have GW556:=Aside0.mk ((by rw [hg];exact (below_size (uB HB)):w.heap.size≤gb556));have GE556:=GW556;replace HB:=Aside0.mk (below_step (uB HB) hb);clear hb hbox hg;have hcz13_0:=bC BK556;have hfz13_0:=blk_frozen BK556.out 0)|(refine gA (some 11) Try.func69 #[.agg #[.slice A0_0 l0_0.length c0_0], .slice A1 l1.length c1, .int .i64 a2] ?_;(with_reducible refine (spec_pcIs.calls k _ _ l0_0 _ _ l1 a2 false _ (uD HR0_0 HB) HC0_0.out (uD HR1 HB) HC1.out A4.out).mono ?_);rintro e w14 ⟨rfl,hb⟩;refine ⟨_,rfl,?_⟩;replace BK556:=Aside0.mk (blk_below (uK BK556) hb);replace HB:=Aside0.mk (below_step (uB HB) hb);(try clear hb)))
  go_ret2
  exact ⟨_,by first|rfl|(simp [errW_none,errW_some] <;>rfl)|(simp [*,errW_none,errW_some] <;>rfl),by first|exact Kd.R_nil _ _ _ _ _|exact Kd.N_nil _ _ _ _ _|exact Kd.V_nil _ _ _ _ _|exact Kd.Q_nil _ _ _ _ _|exact Kd.S_nil _ _ _ _ _,uB HB⟩
def spec_pcBack.l0 : Nat → Int → List Int → Int → Int → List Int → Option (List Int)
 |0,_,_,_,_,_=>none
 |k+1,x2,x7,x13,x14,x562000=>if x14<x13 then ((spec_pcAt.f k x562000 x7 x2 x14).bind fun t565=>(spec_pcBack.l0 k x2 t565 x13 (wrap64 (x14+1)) x562000)) else (some x7)
def spec_pcBack.f (k : Nat) (l0_0 : List Int) (l1 : List Int) (a2 : Int) : Option (List Int) := (spec_l1Own.f l1).bind fun t562 => (spec_pcBack.l0 k a2 t562 (l0_0.length : Int) 0 l0_0)
theorem spec_pcBack.mono_l : ∀ k, (∀ y0 y1 y2 y3 y4, LeO (spec_pcBack.l0 k y0 y1 y2 y3 y4) (spec_pcBack.l0 (k + 1) y0 y1 y2 y3 y4))
 |0=>fun _ _ _ _ _ r h=>by simp [spec_pcBack.l0] at h
 |k+1=>by
  have ih0:=spec_pcBack.mono_l k
  ·
   intro y0 y1 y2 y3 y4;unfold spec_pcBack.l0
   repeat' first
   |(with_reducible exact ih0 _ _ _ _ _)
   |(with_reducible exact spec_pcAt.mono _ _ _ _ _)
   |(with_reducible exact LeO.refl _)
   |(with_reducible exact LeO.none _)
   |(with_reducible refine LeO.ite ?_ ?_)
   |(with_reducible refine LeO.bind ?_ (fun _=> ?_))
   |exact ih0 _ _ _ _ _
   |exact spec_pcAt.mono _ _ _ _ _
   |exact LeO.none _
   |refine LeO.ite ?_ ?_
   |refine LeO.bind ?_ (fun _=> ?_)
theorem spec_pcBack.mono : ∀ a0 a1 a2 k, LeO (spec_pcBack.f k a0 a1 a2) (spec_pcBack.f (k + 1) a0 a1 a2) := by
 intro a0 a1 a2 k;have ih0:=spec_pcBack.mono_l k;unfold spec_pcBack.f
 repeat' first
  |(with_reducible exact ih0 _ _ _ _ _)
  |(with_reducible exact spec_pcAt.mono _ _ _ _ _)
  |(with_reducible exact LeO.refl _)
  |(with_reducible exact LeO.none _)
  |(with_reducible refine LeO.ite ?_ ?_)
  |(with_reducible refine LeO.bind ?_ (fun _=> ?_))
  |exact ih0 _ _ _ _ _
  |exact spec_pcAt.mono _ _ _ _ _
  |exact LeO.none _
  |refine LeO.ite ?_ ?_
  |refine LeO.bind ?_ (fun _=> ?_)
set_option maxHeartbeats 8000000 in
set_option maxRecDepth 100000 in
theorem spec_pcBack.calls (k : Nat) (A0_0 : Option Addr) (c0_0 : Nat) (l0_0 : List Int) (A1 : Option Addr) (c1 : Nat) (l1 : List Int) (a2 : Int) (r : List Int) (w : World) (hr0_0 : Kd.C (Kd.int .i64) w A0_0 l0_0.length l0_0) (hc0_0 : l0_0.length ≤ c0_0) (hr1 : Kd.C (Kd.int .i64) w A1 l1.length l1) (hc1 : l1.length ≤ c1) (h : spec_pcBack.f k l0_0 l1 a2 = some r) :
 Calls Try.prog 87 #[.agg #[.slice A0_0 l0_0.length c0_0], .slice A1 l1.length c1, .int .i64 a2] w fun e w'=> ∃ v0_:Value,e= .returned (v0_)∧Kd.R (Kd.int .i64) 3 w' w.heap.size (fun _=>True) v0_ r∧Below w.heap.size w w':=by
 have hu26:=Try.underlying26;have HR0_0:=Aside0.mk hr0_0;have HC0_0:=Aside0.mk hc0_0;clear hr0_0 hc0_0;have HR1:=Aside0.mk hr1;have HC1:=Aside0.mk hc1;clear hr1 hc1;have HB:=Aside0.mk (Below.refl w.heap.size w);have H:((spec_l1Own.f l1).bind fun t562=>(spec_pcBack.l0 k a2 t562 (l0_0.length:Int) 0 l0_0))=some r:=h;clear h;obtain ⟨t562,A4,H⟩:=bs H;(try dsimp only at H)
 have H':=Aside0.mk H;clear H;go_enter Try.func87,Try.ntmps87;go_wp2_with (first|(refine bE (N:=3) (cs:= #[.slice A0_0 l0_0.length c0_0]) (t:=26) ?_;intro gb561 hg w5 hbox hb;have BK561:=Aside0.mk (hbox);have GW561:=Aside0.mk ((by rw [hg];exact (below_size (uB HB)):w.heap.size≤gb561));have GE561:=GW561;replace HB:=Aside0.mk (below_step (uB HB) hb);clear hb hbox hg)|(refine gA (some 10) Try.func70 #[.slice A1 l1.length c1] ?_;(with_reducible refine (spec_l1Own.calls _ _ l1 t562 _ (uD HR1 HB) HC1.out A4.out).mono ?_);rintro e w6 ⟨v563,rfl,ho0,hb⟩;refine ⟨_,rfl,?_⟩;have HO564:=Aside0.mk (Kd.R_lower ho0 (below_size (uB HB)));replace BK561:=Aside0.mk (blk_below (uK BK561) hb);replace HB:=Aside0.mk (below_step (uB HB) hb);(try clear hb ho0);have hcz7_0:=bC BK561;have hfz7_0:=blk_frozen BK561.out 0))
 go_loopg [7,14] k (fun kq v7 v14 w'=> ∃ (x7_1:List Int) (x14_1:Int),v14= .int .i64 x14_1∧Aside0 (spec_pcBack.l0 kq a2 x7_1 (l0_0.length:Int) x14_1 l0_0=some r)∧Aside0 (kq≤k)∧Aside0 (Kd.R (Kd.int .i64) 3 w' w.heap.size (fun _=>True) v7 x7_1)∧Aside0 (w'.heap[gb561]? =some (.cells #[(.slice A0_0 l0_0.length c0_0)] 26 (0,0)))∧Aside0 (Below w.heap.size w w'))
 case atStart=>exact ⟨(t562),(0),(by first|rfl|(simp;done)|(simp [*];done)),H',⟨Nat.le_refl _⟩,⟨uR HO564⟩,⟨uK BK561⟩,⟨uB HB⟩⟩
 case round=>
  clear H'
  try clear c1
  try clear p2
  try clear c7
  try clear hcz7_0
  try clear hfz7_0
  obtain ⟨x7_1,x14_1,rfl,HA,HK1,HO_7,BK561,HB⟩:=hrel;cases gk with
  |zero=>exact absurd HA.out (by simp [spec_pcBack.l0])
  |succ k1=>
   have H:=HA.out;clear HA;simp only [spec_pcBack.l0] at H
   by_cases c8:x14_1<(l0_0.length:Int)
   ·
    rw [if_pos c8] at H;have c8b0:=decide_eq_true c8;clear c8;obtain ⟨t565,A9,H⟩:=bs H;(try dsimp only at H)
    have H':=Aside0.mk H;clear H;have hcz10_0:=bC BK561;have hfz10_0:=blk_frozen BK561.out 0;obtain ⟨Ao11,co11,eo11⟩:=Kd.R_slice HO_7.out;subst eo11;go_wp2_with (first|(refine gA (some 21) Try.func80 #[.agg #[.slice A0_0 l0_0.length c0_0], .slice Ao11 x7_1.length co11, .int .i64 a2, .int .i64 x14_1] ?_;(with_reducible refine (spec_pcAt.calls k1 _ _ l0_0 _ _ x7_1 a2 x14_1 t565 _ (uD HR0_0 HB) HC0_0.out (uE HO_7) ?side4 A9.out).mono ?_);(case side4=>exact (Kd.R_reads' HO_7.out).2.1);rintro e w12 ⟨v566,rfl,ho0,hb⟩;refine ⟨_,rfl,?_⟩;have HO567:=Aside0.mk (Kd.R_lower (Kd.R_new' ho0 (Kd.R_lt (uR HO_7))) (below_size (uB HB)));replace HO_7:=Aside0.mk (Kd.R_elder' (uR HO_7) (Kd.R_base ho0) hb);replace BK561:=Aside0.mk (blk_below (uK BK561) hb);replace HB:=Aside0.mk (below_step (uB HB) hb);(try clear hb ho0)));go_roundg k1
    case measure=>have:=HK1.out;omega
    case rel=>exact ⟨(t565),(wrap64 (x14_1+1)),(by first|rfl|(simp;done)|(simp [*];done)),H',⟨by have:=HK1.out;omega⟩,⟨by (with_reducible repeat (first|apply Kd.R_alloc|apply Kd.R_drewN|apply Kd.R_drew));exact Kd.R_mono HO567.out (fun _ hk=>trivial)⟩,⟨uK BK561⟩,⟨uB HB⟩⟩
   ·
    rw [if_neg c8] at H;have c8b0:=decide_eq_false c8;clear c8;obtain rfl:=Option.some.inj H;go_wp2
    go_ret
    exact ⟨_,by first|rfl|(simp [errW_none,errW_some] <;>rfl)|(simp [*,errW_none,errW_some] <;>rfl),uR HO_7,uB HB⟩
def spec_RowArrayBack.f (k : Nat) (l0_0 : List Int) (l1 : List Int) (a2 : Int) : Option (List Int × Bool) := (spec_pcIs.f k l0_0 l1 a2).bind fun t569 => (if t569 = true then ((spec_pcBack.f k l0_0 l1 a2).bind fun t570 => (some (t570, true))) else (some (([] : List Int), false)))
theorem spec_RowArrayBack.mono : ∀ a0 a1 a2 k, LeO (spec_RowArrayBack.f k a0 a1 a2) (spec_RowArrayBack.f (k + 1) a0 a1 a2) := by
 intro a0 a1 a2 k;unfold spec_RowArrayBack.f
 repeat' first
  |(with_reducible exact spec_pcBack.mono _ _ _ _)
  |(with_reducible exact spec_pcIs.mono _ _ _ _)
  |(with_reducible exact LeO.refl _)
  |(with_reducible exact LeO.none _)
  |(with_reducible refine LeO.ite ?_ ?_)
  |(with_reducible refine LeO.bind ?_ (fun _=> ?_))
  |exact spec_pcBack.mono _ _ _ _
  |exact spec_pcIs.mono _ _ _ _
  |exact LeO.none _
  |refine LeO.ite ?_ ?_
  |refine LeO.bind ?_ (fun _=> ?_)
set_option maxHeartbeats 8000000 in
set_option maxRecDepth 100000 in
theorem spec_RowArrayBack.calls (k : Nat) (A0_0 : Option Addr) (c0_0 : Nat) (l0_0 : List Int) (A1 : Option Addr) (c1 : Nat) (l1 : List Int) (a2 : Int) (r1 : List Int) (r2 : Bool) (w : World) (hr0_0 : Kd.C (Kd.int .i64) w A0_0 l0_0.length l0_0) (hc0_0 : l0_0.length ≤ c0_0) (hr1 : Kd.C (Kd.int .i64) w A1 l1.length l1) (hc1 : l1.length ≤ c1) (h : spec_RowArrayBack.f k l0_0 l1 a2 = some (r1, r2)) :
 Calls Try.prog 29 #[.agg #[.slice A0_0 l0_0.length c0_0], .slice A1 l1.length c1, .int .i64 a2] w fun e w'=> ∃ v0_:Value,e= .returned (.tuple #[v0_, .bool r2])∧Kd.R (Kd.int .i64) 3 w' w.heap.size (fun _=>True) v0_ r1∧Below w.heap.size w w':=by
 have hu26:=Try.underlying26;have HR0_0:=Aside0.mk hr0_0;have HC0_0:=Aside0.mk hc0_0;clear hr0_0 hc0_0;have HR1:=Aside0.mk hr1;have HC1:=Aside0.mk hc1;clear hr1 hc1;have HB:=Aside0.mk (Below.refl w.heap.size w);have H:((spec_pcIs.f k l0_0 l1 a2).bind fun t569=>(if t569=true then ((spec_pcBack.f k l0_0 l1 a2).bind fun t570=>(some (t570,true))) else (some (([] :List Int),false))))=some (r1,r2):=h;clear h;obtain ⟨t569,A4,H⟩:=bs H;(try dsimp only at H)
 by_cases c5:t569=true
 ·
  subst c5;rw [if_pos rfl] at H;obtain ⟨t570,A6,H⟩:=bs H;(try dsimp only at H)
  simp only [Option.some.injEq,Prod.mk.injEq] at H;obtain ⟨rfl,rfl⟩:=H;go_enter Try.func29,Try.ntmps29;go_wp2_with (first|(refine bE (N:=3) (cs:= #[.slice A0_0 l0_0.length c0_0]) (t:=26) ?_;intro gb568 hg w7 hbox hb;have BK568:=Aside0.mk (hbox);have GW568:=Aside0.mk ((by rw [hg];exact (below_size (uB HB)):w.heap.size≤gb568));have GE568:=GW568;replace HB:=Aside0.mk (below_step (uB HB) hb);clear hb hbox hg;have hcz8_0:=bC BK568;have hfz8_0:=blk_frozen BK568.out 0)|(refine gA (some 11) Try.func69 #[.agg #[.slice A0_0 l0_0.length c0_0], .slice A1 l1.length c1, .int .i64 a2] ?_;(with_reducible refine (spec_pcIs.calls k _ _ l0_0 _ _ l1 a2 true _ (uD HR0_0 HB) HC0_0.out (uD HR1 HB) HC1.out A4.out).mono ?_);rintro e w9 ⟨rfl,hb⟩;refine ⟨_,rfl,?_⟩;replace BK568:=Aside0.mk (blk_below (uK BK568) hb);replace HB:=Aside0.mk (below_step (uB HB) hb);(try clear hb);have hcz10_0:=bC BK568;have hfz10_0:=blk_frozen BK568.out 0)|(refine gA (some 16) Try.func87 #[.agg #[.slice A0_0 l0_0.length c0_0], .slice A1 l1.length c1, .int .i64 a2] ?_;(with_reducible refine (spec_pcBack.calls k _ _ l0_0 _ _ l1 a2 t570 _ (uD HR0_0 HB) HC0_0.out (uD HR1 HB) HC1.out A6.out).mono ?_);rintro e w11 ⟨v571,rfl,ho0,hb⟩;refine ⟨_,rfl,?_⟩;have HO572:=Aside0.mk (Kd.R_lower ho0 (below_size (uB HB)));replace BK568:=Aside0.mk (blk_below (uK BK568) hb);replace HB:=Aside0.mk (below_step (uB HB) hb);(try clear hb ho0)))
  go_ret2
  exact ⟨_,by first|rfl|(simp [errW_none,errW_some] <;>rfl)|(simp [*,errW_none,errW_some] <;>rfl),uR HO572,uB HB⟩
 ·
  replace c5:=Bool.eq_false_iff.mpr c5;subst c5;rw [if_neg (show ¬ (false=true) by decide)] at H;simp only [Option.some.injEq,Prod.mk.injEq] at H;obtain ⟨rfl,rfl⟩:=H;go_enter Try.func29,Try.ntmps29;go_wp2_with (first|(refine bE (N:=3) (cs:= #[.slice A0_0 l0_0.length c0_0]) (t:=26) ?_;intro gb568 hg w12 hbox hb;have BK568:=Aside0.mk (hbox);have GW568:=Aside0.mk ((by rw [hg];exact (below_size (uB HB)):w.heap.size≤gb568));have GE568:=GW568;replace HB:=Aside0.mk (below_step (uB HB) hb);clear hb hbox hg;have hcz13_0:=bC BK568;have hfz13_0:=blk_frozen BK568.out 0)|(refine gA (some 11) Try.func69 #[.agg #[.slice A0_0 l0_0.length c0_0], .slice A1 l1.length c1, .int .i64 a2] ?_;(with_reducible refine (spec_pcIs.calls k _ _ l0_0 _ _ l1 a2 false _ (uD HR0_0 HB) HC0_0.out (uD HR1 HB) HC1.out A4.out).mono ?_);rintro e w14 ⟨rfl,hb⟩;refine ⟨_,rfl,?_⟩;replace BK568:=Aside0.mk (blk_below (uK BK568) hb);replace HB:=Aside0.mk (below_step (uB HB) hb);(try clear hb)))
  go_ret2
  exact ⟨_,by first|rfl|(simp [errW_none,errW_some] <;>rfl)|(simp [*,errW_none,errW_some] <;>rfl),by first|exact Kd.R_nil _ _ _ _ _|exact Kd.N_nil _ _ _ _ _|exact Kd.V_nil _ _ _ _ _|exact Kd.Q_nil _ _ _ _ _|exact Kd.S_nil _ _ _ _ _,uB HB⟩
end Go.Proofs.Ytkgngggppcmpfaa.L
end
