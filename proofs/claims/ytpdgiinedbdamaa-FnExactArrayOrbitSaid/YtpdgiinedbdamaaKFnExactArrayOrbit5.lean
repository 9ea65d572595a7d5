/- Laws about the given program: the law FnExactArrayOrbit answers true for every input that its row lets in; no condition is added to the given statement. Contracts of the Go functions that it reaches, and the plain proof over lists. -/
import Derived.Laws.BitsLemmas
import Derived.WalkKit
import Derived.Test.YtpdgiinedbdamaaWFnExactArrayOrbit0
import Derived.Test.YtpdgiinedbdamaaKFnExactArrayOrbit0
import Derived.Test.YtpdgiinedbdamaaKFnExactArrayOrbit1
import Derived.Test.YtpdgiinedbdamaaKFnExactArrayOrbit2
import Derived.Test.YtpdgiinedbdamaaKFnExactArrayOrbit3
import Derived.Test.YtpdgiinedbdamaaKFnExactArrayOrbit4
section
namespace Go.Proofs.Ytpdgiinedbdamaa.L
open Go.RowKit Go.Proofs.YtpdgiinedbdamaaW.PrintWords Go.Proofs.YtpdgiinedbdamaaW.PrintLast Go.Proofs.YtpdgiinedbdamaaW.PrintMore
attribute [local go_sem] max2_int min2_int max_two min_two max_three min_three max_four min_four
set_option linter.unusedVariables false
set_option linter.unusedSimpArgs false
def laws_FnExactArrayOrbit.g3 (k : Nat) (l0_0 : List Int) (l1 : List Int) (a2 : Int) (w1 : List (List Int)) (w2 : Bool) (m : Int) (G : List (List Int)) : Option Bool :=
  (laws_toPoset.f k l0_0).bind fun u0 =>
  (laws_toIntS.f k l1).bind fun u1 =>
  (impl_ArrayOrbit.f k u0 u1 a2).bind fun t3 => (laws_eqIntSS.f k t3.1 w1).bind fun t4 => if t4 = true then (if t3.2 = w2 then (laws_heldIntSS.f k G 1).bind fun t5 => if t5 < 0 then none else if t5 = m then some true else none else none) else none
def laws_FnExactArrayOrbit.g2 (k : Nat) (l0_0 : List Int) (l1 : List Int) (a2 : Int) (w1 : List (List Int)) (w2 : Bool) (g1 : List (List Int)) : Option Bool :=
  (laws_markIntSS.f k g1 1).bind fun t1 => (laws_heldIntSS.f k t1.2 1).bind fun t2 => if t2 < 0 then none else if t2 = t1.1 then laws_FnExactArrayOrbit.g3 k l0_0 l1 a2 w1 w2 t1.1 t1.2 else none
def laws_FnExactArrayOrbit.g1 (k : Nat) (l0_0 : List Int) (l1 : List Int) (a2 : Int) (w1 : List (List Int)) (w2 : Bool) (x0 : List Int) (x1 : List Int) (g1 : List (List Int)) : Option Bool :=
  (laws_toPoset.f k l0_0).bind fun u0 => (laws_eqPoset.f k x0 u0).bind fun e0 => if e0 = true then (laws_toIntS.f k l1).bind fun u1 => (laws_eqIntS.f k x1 u1).bind fun e1 => if e1 = true then (laws_markPoset.f k x0 1).bind fun m0 =>
  (laws_markIntS.f k x1 m0.1).bind fun m1 =>
  if m1.1 < 0 then none else
  (laws_eqIntSS.f k g1 w1).bind fun t7 => if t7 = true then laws_FnExactArrayOrbit.g2 k l0_0 l1 a2 w1 w2 g1 else none else none else none
def laws_FnExactArrayOrbit.f (k : Nat) (l0_0 : List Int) (l1 : List Int) (a2 : Int) : Option Bool :=
  if (l1.length : Int) > 1048576 then some true else (laws_szPoset.f l0_0 1048576).bind fun z0 => if z0 < 0 then some true else
  (laws_toPoset.f k l0_0).bind fun s0 =>
  (laws_toIntS.f k l1).bind fun s1 =>
  (spec_ArrayOrbit.f k s0 s1 a2).bind fun t3 =>
  (laws_toPoset.f k l0_0).bind fun x0 =>
  (laws_toIntS.f k l1).bind fun x1 =>
  (impl_ArrayOrbit.f k x0 x1 a2).bind fun t6 => (laws_eqIntSS.f k t6.1 t3.1).bind fun t7 => if t7 = true then (if t6.2 = t3.2 then laws_FnExactArrayOrbit.g1 k l0_0 l1 a2 t3.1 t3.2 x0 x1 t6.1 else none) else none
theorem laws_FnExactArrayOrbit.mono : ∀ a0_ a1_ a2_ k, LeO (laws_FnExactArrayOrbit.f k a0_ a1_ a2_) (laws_FnExactArrayOrbit.f (k + 1) a0_ a1_ a2_) := by
  intro a0_ a1_ a2_ k
  unfold laws_FnExactArrayOrbit.f laws_FnExactArrayOrbit.g1 laws_FnExactArrayOrbit.g2 laws_FnExactArrayOrbit.g3
  repeat' first
    | (with_reducible exact LeO.refl _)
    | (with_reducible exact laws_toPoset.mono _ _)
    | (with_reducible exact laws_toIntS.mono _ _)
    | (with_reducible exact spec_ArrayOrbit.mono _ _ _ _)
    | (with_reducible exact impl_ArrayOrbit.mono _ _ _ _)
    | (with_reducible exact laws_eqIntSS.mono _ _ _)
    | (with_reducible exact laws_eqIntS.mono _ _ _)
    | (with_reducible exact laws_eqPoset.mono _ _ _)
    | (with_reducible exact laws_markPoset.mono _ _ _)
    | (with_reducible exact laws_markIntS.mono _ _ _)
    | (with_reducible exact laws_markIntSS.mono _ _ _)
    | (with_reducible exact laws_heldIntSS.mono _ _ _)
    | (with_reducible refine LeO.ite ?_ ?_)
    | (with_reducible refine LeO.bind ?_ (fun _ => ?_))
open Go.Proofs.Ytpdgiinedbdamaa.X in
set_option maxHeartbeats 16000000 in
set_option maxRecDepth 100000 in
theorem laws_FnExactArrayOrbit.calls (k : Nat) (A0_0 : Option Addr) (c0_0 : Nat) (l0_0 : List Int) (A1 : Option Addr) (c1 : Nat) (l1 : List Int) (a2 : Int) (r : Bool) (w : World) (hr0 : Kd.C (Kd.int .i64) w A0_0 l0_0.length l0_0) (hc0 : l0_0.length ≤ c0_0) (hr1 : Kd.C (Kd.int .i64) w A1 l1.length l1) (hc1 : l1.length ≤ c1) (h : laws_FnExactArrayOrbit.f k l0_0 l1 a2 = some r) :
    Calls Try.prog 4 #[.agg #[.slice A0_0 l0_0.length c0_0], .slice A1 l1.length c1, .int .i64 a2] w fun e w' => e = .returned (.bool r) ∧ Below w.heap.size w w' := by
  have HR0 := Aside0.mk hr0
  have HC0 := Aside0.mk hc0
  clear hr0 hc0
  have HR1 := Aside0.mk hr1
  have HC1 := Aside0.mk hc1
  clear hr1 hc1
  have hu := Try.underlying28
  have hu2 := Try.underlying24
  unfold laws_FnExactArrayOrbit.f at h
  by_cases cr1 : (l1.length : Int) > 1048576
  · rw [if_pos cr1] at h
    have cr1b : decide (1048576 < (l1.length : Int)) = true := decide_eq_true cr1
    obtain rfl := Option.some.inj h
    go_enter Try.func4, Try.ntmps4
    go_wp2
    go_ret
    exact ⟨rfl, below_alloc (Below.refl _ _) _⟩
  rw [if_neg cr1] at h
  have cr1b : decide (1048576 < (l1.length : Int)) = false := decide_eq_false cr1
  clear cr1
  have hn_ := Option.bind_eq_some_iff.mp h
  clear h
  obtain ⟨z, hz, h⟩ := hn_
  have HZ := Aside0.mk hz
  have H := Aside0.mk h
  clear hz h
  go_enter Try.func4, Try.ntmps4
  go_wp2_with fail
  have B0 := Aside0.mk (below_alloc (Below.refl w.heap.size w) (.cells #[.slice A0_0 l0_0.length c0_0] 24))
  have R0 := Aside0.mk (Kd.C_alloc HR0.out (.cells #[.slice A0_0 l0_0.length c0_0] 24))
  have R1 := Aside0.mk (Kd.C_alloc HR1.out (.cells #[.slice A0_0 l0_0.length c0_0] 24))
  have Z0 := Aside0.mk (show (w.alloc (.cells #[.slice A0_0 l0_0.length c0_0] 24)).cell? ⟨w.heap.size, 0, none⟩ = some (.slice A0_0 l0_0.length c0_0) by simp)
  have S0 := Aside0.mk (show w.heap.size < (w.alloc (.cells #[.slice A0_0 l0_0.length c0_0] 24)).heap.size by simp)
  generalize w.alloc (.cells #[.slice A0_0 l0_0.length c0_0] 24) = W0 at B0 R0 R1 Z0 S0 ⊢
  generalize hgs : w.heap.size = gb at Z0 S0 ⊢
  clear hgs
  refine (laws_szPoset.calls _ _ l0_0 1048576 z _ R0.out HC0.out HZ.out).mono ?_
  rintro e w1 ⟨rfl, hb⟩
  have B := Aside0.mk hb
  clear hb HZ
  have hz1 : w1.cell? ⟨gb, 0, none⟩ = some (.slice A0_0 l0_0.length c0_0) := (B.out.cell (p := ⟨gb, 0, none⟩) S0.out).trans Z0.out
  have h := H.out
  clear H
  by_cases c2 : z < 0
  · rw [if_pos c2] at h
    have c2b : decide (z < 0) = true := decide_eq_true c2
    obtain rfl := Option.some.inj h
    go_wp2
    go_ret
    exact ⟨rfl, below_to B0.out B.out⟩
  rw [if_neg c2] at h
  have c2b : decide (z < 0) = false := decide_eq_false c2
  clear c2
  have hn_ := Option.bind_eq_some_iff.mp h
  clear h
  obtain ⟨s0, h_, h⟩ := hn_
  have H_s0 := Aside0.mk h_
  clear h_
  have H := Aside0.mk h
  clear h
  go_wp2_with fail
  refine (laws_toPoset.calls k _ _ l0_0 s0 _ (Kd.C_below R0.out B.out) HC0.out H_s0.out).mono ?_
  rintro e w2 ⟨v_, rfl, ho, hb⟩
  have hs_ := hb.size
  have ho_ := Kd.R_lower (Kd.R_mono (ok' := fun k_ => w1.heap.size ≤ k_ ∧ k_ < w2.heap.size) (Kd.R_bound ho) (fun k_ hk => ⟨hk.2.1, hk.2.2.1⟩)) B.out.size
  obtain ⟨A_P0, c_P0, e_P0⟩ := Kd.R_slice ho_
  subst e_P0
  have O2 := Aside0.mk hs_
  clear hs_ ho
  have P0 := Aside0.mk ho_
  clear ho_
  have B_ := below_to B.out hb
  clear B
  have B := Aside0.mk B_
  clear B_
  clear hb
  clear hz1
  have hz2 : w2.cell? ⟨gb, 0, none⟩ = some (.slice A0_0 l0_0.length c0_0) := (B.out.cell (p := ⟨gb, 0, none⟩) S0.out).trans Z0.out
  have h := H.out
  clear H
  have hn_ := Option.bind_eq_some_iff.mp h
  clear h
  obtain ⟨s1, h_, h⟩ := hn_
  have H_s1 := Aside0.mk h_
  clear h_
  have H := Aside0.mk h
  clear h
  go_wp2_with fail
  refine (laws_toIntS.calls k _ _ l1 s1 _ (Kd.C_below R1.out B.out) HC1.out H_s1.out).mono ?_
  rintro e w3 ⟨v_, rfl, ho, hb⟩
  have hs_ := hb.size
  have ho_ := Kd.R_lower (Kd.R_mono (ok' := fun k_ => w2.heap.size ≤ k_ ∧ k_ < w3.heap.size) (Kd.R_bound ho) (fun k_ hk => ⟨hk.2.1, hk.2.2.1⟩)) B.out.size
  obtain ⟨A_P1, c_P1, e_P1⟩ := Kd.R_slice ho_
  subst e_P1
  have O3 := Aside0.mk hs_
  clear hs_ ho
  have P1 := Aside0.mk ho_
  clear ho_
  have B_ := below_to B.out hb
  have P0_ := Kd.R_below P0.out hb
  clear B P0
  have B := Aside0.mk B_
  clear B_
  have P0 := Aside0.mk P0_
  clear P0_
  clear hb
  clear hz2
  have hz3 : w3.cell? ⟨gb, 0, none⟩ = some (.slice A0_0 l0_0.length c0_0) := (B.out.cell (p := ⟨gb, 0, none⟩) S0.out).trans Z0.out
  have h := H.out
  clear H
  have hn_ := Option.bind_eq_some_iff.mp h
  clear h
  obtain ⟨⟨w1_, w2_⟩, h_, h⟩ := hn_
  have H_w1_ := Aside0.mk h_
  clear h_
  have H := Aside0.mk h
  clear h
  go_wp2_with fail
  refine (spec_ArrayOrbit.calls k _ _ s0 _ _ s1 a2 w1_ w2_ _ (Kd.R_reads' P0.out).2.2 (Kd.R_reads' P0.out).2.1 (Kd.R_reads' P1.out).2.2 (Kd.R_reads' P1.out).2.1 H_w1_.out).mono ?_
  rintro e w4 ⟨v_, rfl, ho, hb⟩
  have hs_ := hb.size
  have ho_ : Kd.N (Kd.slice 3 (Kd.int .i64)) 22 w4 W0.heap.size (fun k_ => w3.heap.size ≤ k_ ∧ k_ < w4.heap.size) v_ _ := Kd.N_lower (Kd.N_mono (Kd.N_bound ho) (fun k_ hk => ⟨hk.1, hk.2⟩)) B.out.size
  obtain ⟨A_G0, c_G0, e_G0⟩ := Kd.N_slice ho_
  subst e_G0
  have O4 := Aside0.mk hs_
  clear hs_ ho
  have G0 := Aside0.mk ho_
  clear ho_
  have B_ := below_to B.out hb
  have P0_ := Kd.R_below P0.out hb
  have P1_ := Kd.R_below P1.out hb
  clear B P0 P1
  have B := Aside0.mk B_
  clear B_
  have P0 := Aside0.mk P0_
  clear P0_
  have P1 := Aside0.mk P1_
  clear P1_
  clear hb
  clear hz3
  have hz4 : w4.cell? ⟨gb, 0, none⟩ = some (.slice A0_0 l0_0.length c0_0) := (B.out.cell (p := ⟨gb, 0, none⟩) S0.out).trans Z0.out
  have h := H.out
  clear H
  clear P0 P1
  have hn_ := Option.bind_eq_some_iff.mp h
  clear h
  obtain ⟨x0, h_, h⟩ := hn_
  have H_x0 := Aside0.mk h_
  clear h_
  have H := Aside0.mk h
  clear h
  go_wp2_with fail
  refine (laws_toPoset.calls k _ _ l0_0 x0 _ (Kd.C_below R0.out B.out) HC0.out H_x0.out).mono ?_
  rintro e w5 ⟨v_, rfl, ho, hb⟩
  have hs_ := hb.size
  have ho_ := Kd.R_lower (Kd.R_mono (ok' := fun k_ => w4.heap.size ≤ k_ ∧ k_ < w5.heap.size) (Kd.R_bound ho) (fun k_ hk => ⟨hk.2.1, hk.2.2.1⟩)) B.out.size
  obtain ⟨A_X0, c_X0, e_X0⟩ := Kd.R_slice ho_
  subst e_X0
  have O5 := Aside0.mk hs_
  clear hs_ ho
  have X0 := Aside0.mk ho_
  clear ho_
  have B_ := below_to B.out hb
  have G0_ := Kd.N_below G0.out hb
  clear B G0
  have B := Aside0.mk B_
  clear B_
  have G0 := Aside0.mk G0_
  clear G0_
  clear hb
  clear hz4
  have hz5 : w5.cell? ⟨gb, 0, none⟩ = some (.slice A0_0 l0_0.length c0_0) := (B.out.cell (p := ⟨gb, 0, none⟩) S0.out).trans Z0.out
  have h := H.out
  clear H
  have H := Aside0.mk h
  clear h
  go_wp2_with fail
  have hb := below_alloc (Below.refl w5.heap.size w5) (.cells #[.slice A_X0 x0.length c_X0] 28)
  have BX := Aside0.mk (MapKept.heap_alloc w5 (.cells #[.slice A_X0 x0.length c_X0] 28)).1
  have O6 := Aside0.mk (show w5.heap.size < (w5.alloc (.cells #[.slice A_X0 x0.length c_X0] 28)).heap.size by simp)
  generalize hgw : w5.alloc (.cells #[.slice A_X0 x0.length c_X0] 28) = w6 at hb BX O6 ⊢
  clear hgw
  have B_ := below_to B.out hb
  have G0_ := Kd.N_below G0.out hb
  have X0_ := Kd.R_below X0.out hb
  clear B G0 X0
  have B := Aside0.mk B_
  clear B_
  have G0 := Aside0.mk G0_
  clear G0_
  have X0 := Aside0.mk X0_
  clear X0_
  clear hb
  clear hz5
  have hx6 : w6.cell? ⟨w5.heap.size, 0, none⟩ = some (.slice A_X0 x0.length c_X0) := blk_cell BX.out 0
  have hz6 : w6.cell? ⟨gb, 0, none⟩ = some (.slice A0_0 l0_0.length c0_0) := (B.out.cell (p := ⟨gb, 0, none⟩) S0.out).trans Z0.out
  have h := H.out
  clear H
  have hn_ := Option.bind_eq_some_iff.mp h
  clear h
  obtain ⟨x1, h_, h⟩ := hn_
  have H_x1 := Aside0.mk h_
  clear h_
  have H := Aside0.mk h
  clear h
  go_wp2_with fail
  refine (laws_toIntS.calls k _ _ l1 x1 _ (Kd.C_below R1.out B.out) HC1.out H_x1.out).mono ?_
  rintro e w7 ⟨v_, rfl, ho, hb⟩
  have hs_ := hb.size
  have ho_ := Kd.R_lower (Kd.R_mono (ok' := fun k_ => w6.heap.size ≤ k_ ∧ k_ < w7.heap.size) (Kd.R_bound ho) (fun k_ hk => ⟨hk.2.1, hk.2.2.1⟩)) B.out.size
  obtain ⟨A_X1, c_X1, e_X1⟩ := Kd.R_slice ho_
  subst e_X1
  have O7 := Aside0.mk hs_
  clear hs_ ho
  have X1 := Aside0.mk ho_
  clear ho_
  have B_ := below_to B.out hb
  have G0_ := Kd.N_below G0.out hb
  have X0_ := Kd.R_below X0.out hb
  have BX_ := blk_below (g := w5.heap.size) (o := .cells #[.slice A_X0 x0.length c_X0] 28 (0, 0)) BX.out hb
  clear B G0 X0 BX
  have BX := Aside0.mk BX_
  clear BX_
  have B := Aside0.mk B_
  clear B_
  have G0 := Aside0.mk G0_
  clear G0_
  have X0 := Aside0.mk X0_
  clear X0_
  clear hb
  clear hz6 hx6
  have hx7 : w7.cell? ⟨w5.heap.size, 0, none⟩ = some (.slice A_X0 x0.length c_X0) := blk_cell BX.out 0
  have hz7 : w7.cell? ⟨gb, 0, none⟩ = some (.slice A0_0 l0_0.length c0_0) := (B.out.cell (p := ⟨gb, 0, none⟩) S0.out).trans Z0.out
  have h := H.out
  clear H
  have hn_ := Option.bind_eq_some_iff.mp h
  clear h
  obtain ⟨⟨g1_, g2_⟩, h_, h⟩ := hn_
  have H_g1_ := Aside0.mk h_
  clear h_
  have H := Aside0.mk h
  clear h
  go_wp2_with fail
  refine (impl_ArrayOrbit.calls k _ _ x0 _ _ x1 a2 g1_ g2_ _ (Kd.R_reads' X0.out).2.2 (Kd.R_reads' X0.out).2.1 (Kd.R_reads' X1.out).2.2 (Kd.R_reads' X1.out).2.1 H_g1_.out).mono ?_
  rintro e w8 ⟨v_, rfl, ho, hb⟩
  have hs_ := hb.size
  have ho_ := Kd.S_lower (Kd.S_mono (ok' := fun k_ => w7.heap.size ≤ k_ ∧ k_ < w8.heap.size) (Kd.S_bound ho) (fun k_ hk => ⟨hk.2.1, hk.2.2.1⟩)) B.out.size
  obtain ⟨A_G1, c_G1, e_G1⟩ := Kd.S_slice ho_
  subst e_G1
  have O8 := Aside0.mk hs_
  clear hs_ ho
  have G1 := Aside0.mk ho_
  clear ho_
  have B_ := below_to B.out hb
  have G0_ := Kd.N_below G0.out hb
  have X0_ := Kd.R_below X0.out hb
  have X1_ := Kd.R_below X1.out hb
  have BX_ := blk_below (g := w5.heap.size) (o := .cells #[.slice A_X0 x0.length c_X0] 28 (0, 0)) BX.out hb
  clear B G0 X0 X1 BX
  have BX := Aside0.mk BX_
  clear BX_
  have B := Aside0.mk B_
  clear B_
  have G0 := Aside0.mk G0_
  clear G0_
  have X0 := Aside0.mk X0_
  clear X0_
  have X1 := Aside0.mk X1_
  clear X1_
  clear hb
  clear hz7 hx7
  have hx8 : w8.cell? ⟨w5.heap.size, 0, none⟩ = some (.slice A_X0 x0.length c_X0) := blk_cell BX.out 0
  have hz8 : w8.cell? ⟨gb, 0, none⟩ = some (.slice A0_0 l0_0.length c0_0) := (B.out.cell (p := ⟨gb, 0, none⟩) S0.out).trans Z0.out
  have h := H.out
  clear H
  have hn_ := Option.bind_eq_some_iff.mp h
  clear h
  obtain ⟨t7, h_, h⟩ := hn_
  have H_t7 := Aside0.mk h_
  clear h_
  have H := Aside0.mk h
  clear h
  go_wp2_with fail
  refine (laws_eqIntSS.calls k _ _ g1_ _ _ w1_ t7 _ (Kd.S_reads' G1.out).2.2 (Kd.S_reads' G1.out).2.1 (Kd.N_reads' G0.out).2.2 (Kd.N_reads' G0.out).2.1 H_t7.out).mono ?_
  rintro e w9 ⟨rfl, hd_⟩
  have hb : Below w8.heap.size w8 w9 := by obtain ⟨nd_, rfl⟩ := hd_; exact pw_below_drewN (Below.refl _ _) _
  clear hd_
  have B_ := below_to B.out hb
  have G0_ := Kd.N_below G0.out hb
  have X0_ := Kd.R_below X0.out hb
  have X1_ := Kd.R_below X1.out hb
  have G1_ := Kd.S_below G1.out hb
  have BX_ := blk_below (g := w5.heap.size) (o := .cells #[.slice A_X0 x0.length c_X0] 28 (0, 0)) BX.out hb
  clear B G0 X0 X1 G1 BX
  have BX := Aside0.mk BX_
  clear BX_
  have B := Aside0.mk B_
  clear B_
  have G0 := Aside0.mk G0_
  clear G0_
  have X0 := Aside0.mk X0_
  clear X0_
  have X1 := Aside0.mk X1_
  clear X1_
  have G1 := Aside0.mk G1_
  clear G1_
  clear hb
  clear hz8 hx8
  have hx9 : w9.cell? ⟨w5.heap.size, 0, none⟩ = some (.slice A_X0 x0.length c_X0) := blk_cell BX.out 0
  have hz9 : w9.cell? ⟨gb, 0, none⟩ = some (.slice A0_0 l0_0.length c0_0) := (B.out.cell (p := ⟨gb, 0, none⟩) S0.out).trans Z0.out
  have h := H.out
  clear H
  have hc_ : t7 = true := Classical.byContradiction fun hc_ => by rw [if_neg hc_] at h; cases h
  rw [if_pos hc_] at h
  subst hc_
  have hc_ : g2_ = w2_ := Classical.byContradiction fun hc_ => by rw [if_neg hc_] at h; cases h
  rw [if_pos hc_] at h
  subst hc_
  have hne : (g2_ != g2_) = false := by simp
  unfold laws_FnExactArrayOrbit.g1 at h
  have hn_ := Option.bind_eq_some_iff.mp h
  clear h
  obtain ⟨u0, h_, h⟩ := hn_
  have H_u0 := Aside0.mk h_
  clear h_
  have hn_ := Option.bind_eq_some_iff.mp h
  clear h
  obtain ⟨e0, h_, h⟩ := hn_
  have H_e0 := Aside0.mk h_
  clear h_
  have hc_ : e0 = true := Classical.byContradiction fun hc_ => by rw [if_neg hc_] at h; cases h
  rw [if_pos hc_] at h
  subst hc_
  have H := Aside0.mk h
  clear h
  go_wp2_with fail
  go_region_held3 (fun w' => w'.cell? ⟨w5.heap.size, 0, none⟩ = some (.slice A_X0 x0.length c_X0) ∧ w'.cell? ⟨gb, 0, none⟩ = some (.slice A0_0 l0_0.length c0_0) ∧ Below w9.heap.size w9 w')
    (first | exact ⟨hx9, hz9, below_drew (Below.refl _ _)⟩ | exact ⟨pw_cell_below hb hx9, pw_cell_below hb hz9, below_to (below_drew (Below.refl _ _)) hb⟩ | exact ⟨pw_cell_below hb (And.left (by assumption)), pw_cell_below hb (And.left (And.right (by assumption))), below_to (And.right (And.right (by assumption))) hb⟩)
    (first
      | (go_at_call 16; refine (laws_toPoset.calls k _ _ l0_0 u0 _ (Kd.C_below R0.out (by first | exact B.out | exact below_drew B.out | exact below_to B.out (And.right (And.right (by assumption))))) HC0.out H_u0.out).mono ?_; rintro e wu ⟨vu, rfl, hR, hb⟩; obtain ⟨Ao, co, rfl, hl, hC⟩ := Kd.R_reads hR)
      | (go_at_call 18; have B9 := Aside0.mk (show Below w9.heap.size w9 wu from And.right (And.right (by assumption))); refine (laws_eqPoset.calls k _ _ x0 _ _ u0 true _ (Kd.C_below (Kd.R_reads' X0.out).2.2 B9.out) (Kd.R_reads' X0.out).2.1 hC hl H_e0.out).mono ?_; rintro e w10 ⟨rfl, hb⟩))
  have hh_ : Below w9.heap.size w9 w10 := And.right (And.right (by assumption : w10.cell? ⟨w5.heap.size, 0, none⟩ = some (.slice A_X0 x0.length c_X0) ∧ w10.cell? ⟨gb, 0, none⟩ = some (.slice A0_0 l0_0.length c0_0) ∧ Below w9.heap.size w9 w10))
  clear hb
  have hb := hh_
  clear hh_
  have B_ := below_to B.out hb
  have G0_ := Kd.N_below G0.out hb
  have X0_ := Kd.R_below X0.out hb
  have X1_ := Kd.R_below X1.out hb
  have G1_ := Kd.S_below G1.out hb
  have BX_ := blk_below (g := w5.heap.size) (o := .cells #[.slice A_X0 x0.length c_X0] 28 (0, 0)) BX.out hb
  clear B G0 X0 X1 G1 BX
  have BX := Aside0.mk BX_
  clear BX_
  have B := Aside0.mk B_
  clear B_
  have G0 := Aside0.mk G0_
  clear G0_
  have X0 := Aside0.mk X0_
  clear X0_
  have X1 := Aside0.mk X1_
  clear X1_
  have G1 := Aside0.mk G1_
  clear G1_
  clear hb
  clear hz9 hx9
  have hx10 : w10.cell? ⟨w5.heap.size, 0, none⟩ = some (.slice A_X0 x0.length c_X0) := blk_cell BX.out 0
  have hz10 : w10.cell? ⟨gb, 0, none⟩ = some (.slice A0_0 l0_0.length c0_0) := (B.out.cell (p := ⟨gb, 0, none⟩) S0.out).trans Z0.out
  have h := H.out
  clear H
  have hn_ := Option.bind_eq_some_iff.mp h
  clear h
  obtain ⟨u1, h_, h⟩ := hn_
  have H_u1 := Aside0.mk h_
  clear h_
  have H := Aside0.mk h
  clear h
  go_wp2_with fail
  refine (laws_toIntS.calls k _ _ l1 u1 _ (Kd.C_below R1.out B.out) HC1.out H_u1.out).mono ?_
  rintro e w11 ⟨v_, rfl, ho, hb⟩
  have hs_ := hb.size
  have ho_ := Kd.R_lower (Kd.R_mono (ok' := fun k_ => w10.heap.size ≤ k_ ∧ k_ < w11.heap.size) (Kd.R_bound ho) (fun k_ hk => ⟨hk.2.1, hk.2.2.1⟩)) B.out.size
  obtain ⟨A_U1, c_U1, e_U1⟩ := Kd.R_slice ho_
  subst e_U1
  have O11 := Aside0.mk hs_
  clear hs_ ho
  have U1 := Aside0.mk ho_
  clear ho_
  have B_ := below_to B.out hb
  have G0_ := Kd.N_below G0.out hb
  have X0_ := Kd.R_below X0.out hb
  have X1_ := Kd.R_below X1.out hb
  have G1_ := Kd.S_below G1.out hb
  have BX_ := blk_below (g := w5.heap.size) (o := .cells #[.slice A_X0 x0.length c_X0] 28 (0, 0)) BX.out hb
  clear B G0 X0 X1 G1 BX
  have BX := Aside0.mk BX_
  clear BX_
  have B := Aside0.mk B_
  clear B_
  have G0 := Aside0.mk G0_
  clear G0_
  have X0 := Aside0.mk X0_
  clear X0_
  have X1 := Aside0.mk X1_
  clear X1_
  have G1 := Aside0.mk G1_
  clear G1_
  clear hb
  clear hz10 hx10
  have hx11 : w11.cell? ⟨w5.heap.size, 0, none⟩ = some (.slice A_X0 x0.length c_X0) := blk_cell BX.out 0
  have hz11 : w11.cell? ⟨gb, 0, none⟩ = some (.slice A0_0 l0_0.length c0_0) := (B.out.cell (p := ⟨gb, 0, none⟩) S0.out).trans Z0.out
  have h := H.out
  clear H
  have hn_ := Option.bind_eq_some_iff.mp h
  clear h
  obtain ⟨e1, h_, h⟩ := hn_
  have H_e1 := Aside0.mk h_
  clear h_
  have H := Aside0.mk h
  clear h
  go_wp2_with fail
  refine (laws_eqIntS.calls k _ _ x1 _ _ u1 e1 _ (Kd.R_reads' X1.out).2.2 (Kd.R_reads' X1.out).2.1 (Kd.R_reads' U1.out).2.2 (Kd.R_reads' U1.out).2.1 H_e1.out).mono ?_
  rintro e w12 ⟨rfl, hd_⟩
  have hb : Below w11.heap.size w11 w12 := by obtain ⟨nd_, rfl⟩ := hd_; exact pw_below_drewN (Below.refl _ _) _
  clear hd_
  have B_ := below_to B.out hb
  have G0_ := Kd.N_below G0.out hb
  have X0_ := Kd.R_below X0.out hb
  have X1_ := Kd.R_below X1.out hb
  have G1_ := Kd.S_below G1.out hb
  have U1_ := Kd.R_below U1.out hb
  have BX_ := blk_below (g := w5.heap.size) (o := .cells #[.slice A_X0 x0.length c_X0] 28 (0, 0)) BX.out hb
  clear B G0 X0 X1 G1 U1 BX
  have BX := Aside0.mk BX_
  clear BX_
  have B := Aside0.mk B_
  clear B_
  have G0 := Aside0.mk G0_
  clear G0_
  have X0 := Aside0.mk X0_
  clear X0_
  have X1 := Aside0.mk X1_
  clear X1_
  have G1 := Aside0.mk G1_
  clear G1_
  have U1 := Aside0.mk U1_
  clear U1_
  clear hb
  clear hz11 hx11
  have hx12 : w12.cell? ⟨w5.heap.size, 0, none⟩ = some (.slice A_X0 x0.length c_X0) := blk_cell BX.out 0
  have hz12 : w12.cell? ⟨gb, 0, none⟩ = some (.slice A0_0 l0_0.length c0_0) := (B.out.cell (p := ⟨gb, 0, none⟩) S0.out).trans Z0.out
  have h := H.out
  clear H
  have hc_ : e1 = true := Classical.byContradiction fun hc_ => by rw [if_neg hc_] at h; cases h
  rw [if_pos hc_] at h
  subst hc_
  clear U1
  have hn_ := Option.bind_eq_some_iff.mp h
  clear h
  obtain ⟨⟨m0, y0⟩, h_, h⟩ := hn_
  have H_m0 := Aside0.mk h_
  clear h_
  have H := Aside0.mk h
  clear h
  go_wp2_with fail
  refine (laws_markPoset.calls k (fun k_ => w4.heap.size ≤ k_ ∧ k_ < w5.heap.size) _ x0 1 m0 y0 W0 _ B.out X0.out H_m0.out).mono ?_
  rintro e w13 ⟨rfl, hy_, hbk, hk⟩
  have B_ := hbk
  have G0_ := Kd.N_kept G0.out hk (fun k_ (hk_ : w3.heap.size ≤ k_ ∧ k_ < w4.heap.size) (hs_ : w4.heap.size ≤ k_ ∧ k_ < w5.heap.size) => by have o2 := O2.out; have o3 := O3.out; have o4 := O4.out; have o5 := O5.out; have o6 := O6.out; have o7 := O7.out; have o8 := O8.out; have o11 := O11.out; omega)
  have X1_ := Kd.R_kept X1.out hk (fun k_ (hk_ : w6.heap.size ≤ k_ ∧ k_ < w7.heap.size) (hs_ : w4.heap.size ≤ k_ ∧ k_ < w5.heap.size) => by have o2 := O2.out; have o3 := O3.out; have o4 := O4.out; have o5 := O5.out; have o6 := O6.out; have o7 := O7.out; have o8 := O8.out; have o11 := O11.out; omega)
  have G1_ := Kd.S_kept G1.out hk (fun k_ (hk_ : w7.heap.size ≤ k_ ∧ k_ < w8.heap.size) (hs_ : w4.heap.size ≤ k_ ∧ k_ < w5.heap.size) => by have o2 := O2.out; have o3 := O3.out; have o4 := O4.out; have o5 := O5.out; have o6 := O6.out; have o7 := O7.out; have o8 := O8.out; have o11 := O11.out; omega)
  have BX_ := blk_kept (g := w5.heap.size) (o := .cells #[.slice A_X0 x0.length c_X0] 28 (0, 0)) BX.out hk (fun (hs_ : w4.heap.size ≤ w5.heap.size ∧ w5.heap.size < w5.heap.size) => by have o2 := O2.out; have o3 := O3.out; have o4 := O4.out; have o5 := O5.out; have o6 := O6.out; have o7 := O7.out; have o8 := O8.out; have o11 := O11.out; omega)
  clear B G0 X1 G1 BX
  have BX := Aside0.mk BX_
  clear BX_
  have B := Aside0.mk B_
  clear B_
  have G0 := Aside0.mk G0_
  clear G0_
  have X1 := Aside0.mk X1_
  clear X1_
  have G1 := Aside0.mk G1_
  clear G1_
  clear hy_ hbk hk
  clear X0
  clear hz12 hx12
  have hx13 : w13.cell? ⟨w5.heap.size, 0, none⟩ = some (.slice A_X0 x0.length c_X0) := blk_cell BX.out 0
  have hz13 : w13.cell? ⟨gb, 0, none⟩ = some (.slice A0_0 l0_0.length c0_0) := (B.out.cell (p := ⟨gb, 0, none⟩) S0.out).trans Z0.out
  have h := H.out
  clear H
  have hn_ := Option.bind_eq_some_iff.mp h
  clear h
  obtain ⟨⟨m1, y1⟩, h_, h⟩ := hn_
  have H_m1 := Aside0.mk h_
  clear h_
  have H := Aside0.mk h
  clear h
  go_wp2_with fail
  refine (laws_markIntS.calls k (fun k_ => w6.heap.size ≤ k_ ∧ k_ < w7.heap.size) _ x1 m0 m1 y1 W0 _ B.out X1.out H_m1.out).mono ?_
  rintro e w14 ⟨rfl, hy_, hbk, hk⟩
  have B_ := hbk
  have G0_ := Kd.N_kept G0.out hk (fun k_ (hk_ : w3.heap.size ≤ k_ ∧ k_ < w4.heap.size) (hs_ : w6.heap.size ≤ k_ ∧ k_ < w7.heap.size) => by have o2 := O2.out; have o3 := O3.out; have o4 := O4.out; have o5 := O5.out; have o6 := O6.out; have o7 := O7.out; have o8 := O8.out; have o11 := O11.out; omega)
  have G1_ := Kd.S_kept G1.out hk (fun k_ (hk_ : w7.heap.size ≤ k_ ∧ k_ < w8.heap.size) (hs_ : w6.heap.size ≤ k_ ∧ k_ < w7.heap.size) => by have o2 := O2.out; have o3 := O3.out; have o4 := O4.out; have o5 := O5.out; have o6 := O6.out; have o7 := O7.out; have o8 := O8.out; have o11 := O11.out; omega)
  have BX_ := blk_kept (g := w5.heap.size) (o := .cells #[.slice A_X0 x0.length c_X0] 28 (0, 0)) BX.out hk (fun (hs_ : w6.heap.size ≤ w5.heap.size ∧ w5.heap.size < w7.heap.size) => by have o2 := O2.out; have o3 := O3.out; have o4 := O4.out; have o5 := O5.out; have o6 := O6.out; have o7 := O7.out; have o8 := O8.out; have o11 := O11.out; omega)
  clear B G0 G1 BX
  have BX := Aside0.mk BX_
  clear BX_
  have B := Aside0.mk B_
  clear B_
  have G0 := Aside0.mk G0_
  clear G0_
  have G1 := Aside0.mk G1_
  clear G1_
  clear hy_ hbk hk
  clear X1
  clear hz13 hx13
  have hx14 : w14.cell? ⟨w5.heap.size, 0, none⟩ = some (.slice A_X0 x0.length c_X0) := blk_cell BX.out 0
  have hz14 : w14.cell? ⟨gb, 0, none⟩ = some (.slice A0_0 l0_0.length c0_0) := (B.out.cell (p := ⟨gb, 0, none⟩) S0.out).trans Z0.out
  have h := H.out
  clear H
  have hc_ : ¬ (m1 < 0) := fun hc_ => by rw [if_pos hc_] at h; cases h
  rw [if_neg hc_] at h
  have cm : decide (m1 < 0) = false := decide_eq_false hc_
  clear hc_
  have hn_ := Option.bind_eq_some_iff.mp h
  clear h
  obtain ⟨t8, h_, h⟩ := hn_
  have H_t8 := Aside0.mk h_
  clear h_
  have H := Aside0.mk h
  clear h
  go_wp2_with fail
  refine (laws_eqIntSS.calls k _ _ g1_ _ _ w1_ t8 _ (Kd.S_reads' G1.out).2.2 (Kd.S_reads' G1.out).2.1 (Kd.N_reads' G0.out).2.2 (Kd.N_reads' G0.out).2.1 H_t8.out).mono ?_
  rintro e w15 ⟨rfl, hd_⟩
  have hb : Below w14.heap.size w14 w15 := by obtain ⟨nd_, rfl⟩ := hd_; exact pw_below_drewN (Below.refl _ _) _
  clear hd_
  have B_ := below_to B.out hb
  have G0_ := Kd.N_below G0.out hb
  have G1_ := Kd.S_below G1.out hb
  have BX_ := blk_below (g := w5.heap.size) (o := .cells #[.slice A_X0 x0.length c_X0] 28 (0, 0)) BX.out hb
  clear B G0 G1 BX
  have BX := Aside0.mk BX_
  clear BX_
  have B := Aside0.mk B_
  clear B_
  have G0 := Aside0.mk G0_
  clear G0_
  have G1 := Aside0.mk G1_
  clear G1_
  clear hb
  clear hz14 hx14
  have hx15 : w15.cell? ⟨w5.heap.size, 0, none⟩ = some (.slice A_X0 x0.length c_X0) := blk_cell BX.out 0
  have hz15 : w15.cell? ⟨gb, 0, none⟩ = some (.slice A0_0 l0_0.length c0_0) := (B.out.cell (p := ⟨gb, 0, none⟩) S0.out).trans Z0.out
  have h := H.out
  clear H
  have hc_ : t8 = true := Classical.byContradiction fun hc_ => by rw [if_neg hc_] at h; cases h
  rw [if_pos hc_] at h
  subst hc_
  unfold laws_FnExactArrayOrbit.g2 at h
  have hn_ := Option.bind_eq_some_iff.mp h
  clear h
  obtain ⟨⟨m_, G_⟩, h_, h⟩ := hn_
  have H_m_ := Aside0.mk h_
  clear h_
  have H := Aside0.mk h
  clear h
  go_wp2_with fail
  refine (laws_markIntSS.calls k (fun k_ => w7.heap.size ≤ k_ ∧ k_ < w8.heap.size) _ g1_ 1 m_ G_ W0 _ B.out G1.out H_m_.out).mono ?_
  rintro e w16 ⟨rfl, hy_, hbk, hk⟩
  have B_ := hbk
  have G0_ := Kd.N_kept G0.out hk (fun k_ (hk_ : w3.heap.size ≤ k_ ∧ k_ < w4.heap.size) (hs_ : w7.heap.size ≤ k_ ∧ k_ < w8.heap.size) => by have o2 := O2.out; have o3 := O3.out; have o4 := O4.out; have o5 := O5.out; have o6 := O6.out; have o7 := O7.out; have o8 := O8.out; have o11 := O11.out; omega)
  have BX_ := blk_kept (g := w5.heap.size) (o := .cells #[.slice A_X0 x0.length c_X0] 28 (0, 0)) BX.out hk (fun (hs_ : w7.heap.size ≤ w5.heap.size ∧ w5.heap.size < w8.heap.size) => by have o2 := O2.out; have o3 := O3.out; have o4 := O4.out; have o5 := O5.out; have o6 := O6.out; have o7 := O7.out; have o8 := O8.out; have o11 := O11.out; omega)
  clear B G0 BX
  have BX := Aside0.mk BX_
  clear BX_
  have B := Aside0.mk B_
  clear B_
  have G0 := Aside0.mk G0_
  clear G0_
  clear hbk hk G1
  clear hz15 hx15
  have hx16 : w16.cell? ⟨w5.heap.size, 0, none⟩ = some (.slice A_X0 x0.length c_X0) := blk_cell BX.out 0
  have hz16 : w16.cell? ⟨gb, 0, none⟩ = some (.slice A0_0 l0_0.length c0_0) := (B.out.cell (p := ⟨gb, 0, none⟩) S0.out).trans Z0.out
  have hlen_ := (Kd.S_reads' hy_).1
  rw [hlen_] at hy_
  rw [hlen_]
  clear hlen_
  have G1 := Aside0.mk hy_
  clear hy_
  have h := H.out
  clear H
  have hn_ := Option.bind_eq_some_iff.mp h
  clear h
  obtain ⟨t9, h_, h⟩ := hn_
  have H_t9 := Aside0.mk h_
  clear h_
  have H := Aside0.mk h
  clear h
  go_wp2_with fail
  refine (laws_heldIntSS.calls k _ _ G_ 1 t9 _ (Kd.S_reads' G1.out).2.2 (Kd.S_reads' G1.out).2.1 H_t9.out).mono ?_
  rintro e w17 ⟨rfl, hd_⟩
  have hb : Below w16.heap.size w16 w17 := by obtain ⟨nd_, rfl⟩ := hd_; exact pw_below_drewN (Below.refl _ _) _
  clear hd_
  have B_ := below_to B.out hb
  have G0_ := Kd.N_below G0.out hb
  have G1_ := Kd.S_below G1.out hb
  have BX_ := blk_below (g := w5.heap.size) (o := .cells #[.slice A_X0 x0.length c_X0] 28 (0, 0)) BX.out hb
  clear B G0 G1 BX
  have BX := Aside0.mk BX_
  clear BX_
  have B := Aside0.mk B_
  clear B_
  have G0 := Aside0.mk G0_
  clear G0_
  have G1 := Aside0.mk G1_
  clear G1_
  clear hb
  clear hz16 hx16
  have hx17 : w17.cell? ⟨w5.heap.size, 0, none⟩ = some (.slice A_X0 x0.length c_X0) := blk_cell BX.out 0
  have hz17 : w17.cell? ⟨gb, 0, none⟩ = some (.slice A0_0 l0_0.length c0_0) := (B.out.cell (p := ⟨gb, 0, none⟩) S0.out).trans Z0.out
  have h := H.out
  clear H
  have hc_ : ¬ (t9 < 0) := fun hc_ => by rw [if_pos hc_] at h; cases h
  rw [if_neg hc_] at h
  have ct9 : decide (t9 < 0) = false := decide_eq_false hc_
  clear hc_
  have hc_ : t9 = m_ := Classical.byContradiction fun hc_ => by rw [if_neg hc_] at h; cases h
  rw [if_pos hc_] at h
  have ctm : (t9 == m_) = true := beq_iff_eq.mpr hc_
  have ctn : (t9 != m_) = false := by rw [hc_]; simp
  clear hc_
  unfold laws_FnExactArrayOrbit.g3 at h
  have hn_ := Option.bind_eq_some_iff.mp h
  clear h
  obtain ⟨h0, h_, h⟩ := hn_
  have H_h0 := Aside0.mk h_
  clear h_
  have H := Aside0.mk h
  clear h
  go_wp2_with fail
  refine (laws_toPoset.calls k _ _ l0_0 h0 _ (Kd.C_below R0.out B.out) HC0.out H_h0.out).mono ?_
  rintro e w18 ⟨v_, rfl, ho, hb⟩
  have hs_ := hb.size
  have ho_ := Kd.R_lower (Kd.R_mono (ok' := fun k_ => w17.heap.size ≤ k_ ∧ k_ < w18.heap.size) (Kd.R_bound ho) (fun k_ hk => ⟨hk.2.1, hk.2.2.1⟩)) B.out.size
  obtain ⟨A_Y0, c_Y0, e_Y0⟩ := Kd.R_slice ho_
  subst e_Y0
  have O18 := Aside0.mk hs_
  clear hs_ ho
  have Y0 := Aside0.mk ho_
  clear ho_
  have B_ := below_to B.out hb
  have G0_ := Kd.N_below G0.out hb
  have G1_ := Kd.S_below G1.out hb
  have BX_ := blk_below (g := w5.heap.size) (o := .cells #[.slice A_X0 x0.length c_X0] 28 (0, 0)) BX.out hb
  clear B G0 G1 BX
  have BX := Aside0.mk BX_
  clear BX_
  have B := Aside0.mk B_
  clear B_
  have G0 := Aside0.mk G0_
  clear G0_
  have G1 := Aside0.mk G1_
  clear G1_
  clear hb
  clear hz17 hx17
  have hx18 : w18.cell? ⟨w5.heap.size, 0, none⟩ = some (.slice A_X0 x0.length c_X0) := blk_cell BX.out 0
  have hz18 : w18.cell? ⟨gb, 0, none⟩ = some (.slice A0_0 l0_0.length c0_0) := (B.out.cell (p := ⟨gb, 0, none⟩) S0.out).trans Z0.out
  have h := H.out
  clear H
  have hn_ := Option.bind_eq_some_iff.mp h
  clear h
  obtain ⟨h1, h_, h⟩ := hn_
  have H_h1 := Aside0.mk h_
  clear h_
  have H := Aside0.mk h
  clear h
  go_wp2_with fail
  refine (laws_toIntS.calls k _ _ l1 h1 _ (Kd.C_below R1.out B.out) HC1.out H_h1.out).mono ?_
  rintro e w19 ⟨v_, rfl, ho, hb⟩
  have hs_ := hb.size
  have ho_ := Kd.R_lower (Kd.R_mono (ok' := fun k_ => w18.heap.size ≤ k_ ∧ k_ < w19.heap.size) (Kd.R_bound ho) (fun k_ hk => ⟨hk.2.1, hk.2.2.1⟩)) B.out.size
  obtain ⟨A_Y1, c_Y1, e_Y1⟩ := Kd.R_slice ho_
  subst e_Y1
  have O19 := Aside0.mk hs_
  clear hs_ ho
  have Y1 := Aside0.mk ho_
  clear ho_
  have B_ := below_to B.out hb
  have G0_ := Kd.N_below G0.out hb
  have G1_ := Kd.S_below G1.out hb
  have Y0_ := Kd.R_below Y0.out hb
  have BX_ := blk_below (g := w5.heap.size) (o := .cells #[.slice A_X0 x0.length c_X0] 28 (0, 0)) BX.out hb
  clear B G0 G1 Y0 BX
  have BX := Aside0.mk BX_
  clear BX_
  have B := Aside0.mk B_
  clear B_
  have G0 := Aside0.mk G0_
  clear G0_
  have G1 := Aside0.mk G1_
  clear G1_
  have Y0 := Aside0.mk Y0_
  clear Y0_
  clear hb
  clear hz18 hx18
  have hx19 : w19.cell? ⟨w5.heap.size, 0, none⟩ = some (.slice A_X0 x0.length c_X0) := blk_cell BX.out 0
  have hz19 : w19.cell? ⟨gb, 0, none⟩ = some (.slice A0_0 l0_0.length c0_0) := (B.out.cell (p := ⟨gb, 0, none⟩) S0.out).trans Z0.out
  have h := H.out
  clear H
  have hn_ := Option.bind_eq_some_iff.mp h
  clear h
  obtain ⟨⟨h1_, h2_⟩, h_, h⟩ := hn_
  have H_h1_ := Aside0.mk h_
  clear h_
  have H := Aside0.mk h
  clear h
  go_wp2_with fail
  refine (impl_ArrayOrbit.calls k _ _ h0 _ _ h1 a2 h1_ h2_ _ (Kd.R_reads' Y0.out).2.2 (Kd.R_reads' Y0.out).2.1 (Kd.R_reads' Y1.out).2.2 (Kd.R_reads' Y1.out).2.1 H_h1_.out).mono ?_
  rintro e w20 ⟨v_, rfl, ho, hb⟩
  have hs_ := hb.size
  have ho_ := Kd.S_lower (Kd.S_mono (ok' := fun k_ => w19.heap.size ≤ k_ ∧ k_ < w20.heap.size) (Kd.S_bound ho) (fun k_ hk => ⟨hk.2.1, hk.2.2.1⟩)) B.out.size
  obtain ⟨A_G2, c_G2, e_G2⟩ := Kd.S_slice ho_
  subst e_G2
  have O20 := Aside0.mk hs_
  clear hs_ ho
  have G2 := Aside0.mk ho_
  clear ho_
  have B_ := below_to B.out hb
  have G0_ := Kd.N_below G0.out hb
  have G1_ := Kd.S_below G1.out hb
  have Y0_ := Kd.R_below Y0.out hb
  have Y1_ := Kd.R_below Y1.out hb
  have BX_ := blk_below (g := w5.heap.size) (o := .cells #[.slice A_X0 x0.length c_X0] 28 (0, 0)) BX.out hb
  clear B G0 G1 Y0 Y1 BX
  have BX := Aside0.mk BX_
  clear BX_
  have B := Aside0.mk B_
  clear B_
  have G0 := Aside0.mk G0_
  clear G0_
  have G1 := Aside0.mk G1_
  clear G1_
  have Y0 := Aside0.mk Y0_
  clear Y0_
  have Y1 := Aside0.mk Y1_
  clear Y1_
  clear hb
  clear hz19 hx19
  have hx20 : w20.cell? ⟨w5.heap.size, 0, none⟩ = some (.slice A_X0 x0.length c_X0) := blk_cell BX.out 0
  have hz20 : w20.cell? ⟨gb, 0, none⟩ = some (.slice A0_0 l0_0.length c0_0) := (B.out.cell (p := ⟨gb, 0, none⟩) S0.out).trans Z0.out
  have h := H.out
  clear H
  have hn_ := Option.bind_eq_some_iff.mp h
  clear h
  obtain ⟨t10, h_, h⟩ := hn_
  have H_t10 := Aside0.mk h_
  clear h_
  have H := Aside0.mk h
  clear h
  go_wp2_with fail
  refine (laws_eqIntSS.calls k _ _ h1_ _ _ w1_ t10 _ (Kd.S_reads' G2.out).2.2 (Kd.S_reads' G2.out).2.1 (Kd.N_reads' G0.out).2.2 (Kd.N_reads' G0.out).2.1 H_t10.out).mono ?_
  rintro e w21 ⟨rfl, hd_⟩
  have hb : Below w20.heap.size w20 w21 := by obtain ⟨nd_, rfl⟩ := hd_; exact pw_below_drewN (Below.refl _ _) _
  clear hd_
  have B_ := below_to B.out hb
  have G0_ := Kd.N_below G0.out hb
  have G1_ := Kd.S_below G1.out hb
  have Y0_ := Kd.R_below Y0.out hb
  have Y1_ := Kd.R_below Y1.out hb
  have G2_ := Kd.S_below G2.out hb
  have BX_ := blk_below (g := w5.heap.size) (o := .cells #[.slice A_X0 x0.length c_X0] 28 (0, 0)) BX.out hb
  clear B G0 G1 Y0 Y1 G2 BX
  have BX := Aside0.mk BX_
  clear BX_
  have B := Aside0.mk B_
  clear B_
  have G0 := Aside0.mk G0_
  clear G0_
  have G1 := Aside0.mk G1_
  clear G1_
  have Y0 := Aside0.mk Y0_
  clear Y0_
  have Y1 := Aside0.mk Y1_
  clear Y1_
  have G2 := Aside0.mk G2_
  clear G2_
  clear hb
  clear hz20 hx20
  have hx21 : w21.cell? ⟨w5.heap.size, 0, none⟩ = some (.slice A_X0 x0.length c_X0) := blk_cell BX.out 0
  have hz21 : w21.cell? ⟨gb, 0, none⟩ = some (.slice A0_0 l0_0.length c0_0) := (B.out.cell (p := ⟨gb, 0, none⟩) S0.out).trans Z0.out
  have h := H.out
  clear H
  have hc_ : t10 = true := Classical.byContradiction fun hc_ => by rw [if_neg hc_] at h; cases h
  rw [if_pos hc_] at h
  subst hc_
  have hc_ : h2_ = g2_ := Classical.byContradiction fun hc_ => by rw [if_neg hc_] at h; cases h
  rw [if_pos hc_] at h
  subst hc_
  have hn_ := Option.bind_eq_some_iff.mp h
  clear h
  obtain ⟨t11, h_, h⟩ := hn_
  have H_t11 := Aside0.mk h_
  clear h_
  have H := Aside0.mk h
  clear h
  go_wp2_with fail
  refine (laws_heldIntSS.calls k _ _ G_ 1 t11 _ (Kd.S_reads' G1.out).2.2 (Kd.S_reads' G1.out).2.1 H_t11.out).mono ?_
  rintro e w22 ⟨rfl, hd_⟩
  have hb : Below w21.heap.size w21 w22 := by obtain ⟨nd_, rfl⟩ := hd_; exact pw_below_drewN (Below.refl _ _) _
  clear hd_
  have B_ := below_to B.out hb
  have G0_ := Kd.N_below G0.out hb
  have G1_ := Kd.S_below G1.out hb
  have Y0_ := Kd.R_below Y0.out hb
  have Y1_ := Kd.R_below Y1.out hb
  have G2_ := Kd.S_below G2.out hb
  have BX_ := blk_below (g := w5.heap.size) (o := .cells #[.slice A_X0 x0.length c_X0] 28 (0, 0)) BX.out hb
  clear B G0 G1 Y0 Y1 G2 BX
  have BX := Aside0.mk BX_
  clear BX_
  have B := Aside0.mk B_
  clear B_
  have G0 := Aside0.mk G0_
  clear G0_
  have G1 := Aside0.mk G1_
  clear G1_
  have Y0 := Aside0.mk Y0_
  clear Y0_
  have Y1 := Aside0.mk Y1_
  clear Y1_
  have G2 := Aside0.mk G2_
  clear G2_
  clear hb
  clear hz21 hx21
  have hx22 : w22.cell? ⟨w5.heap.size, 0, none⟩ = some (.slice A_X0 x0.length c_X0) := blk_cell BX.out 0
  have hz22 : w22.cell? ⟨gb, 0, none⟩ = some (.slice A0_0 l0_0.length c0_0) := (B.out.cell (p := ⟨gb, 0, none⟩) S0.out).trans Z0.out
  have h := H.out
  clear H
  have hc_ : ¬ (t11 < 0) := fun hc_ => by rw [if_pos hc_] at h; cases h
  rw [if_neg hc_] at h
  have ct11 : decide (t11 < 0) = false := decide_eq_false hc_
  clear hc_
  have hc_ : t11 = m_ := Classical.byContradiction fun hc_ => by rw [if_neg hc_] at h; cases h
  rw [if_pos hc_] at h
  have cto : (t11 == m_) = true := beq_iff_eq.mpr hc_
  have ctp : (t11 != m_) = false := by rw [hc_]; simp
  clear hc_
  obtain rfl := Option.some.inj h
  go_wp2
  go_ret
  exact ⟨rfl, below_to B0.out B.out⟩
end Go.Proofs.Ytpdgiinedbdamaa.L
end
section
namespace Go.Proofs.Ytpdgiinedbdamaa.L
open Go.RowKit Go.Proofs.YtpdgiinedbdamaaW.PrintWords Go.Proofs.YtpdgiinedbdamaaW.PrintLast
def laws_FnExactArrayOrbit.Pure2 : Prop := ∀ (l0 : List Int) (l1 : List Int) (a2 : Int), l0.length ≤ maxLen → (∀ x ∈ l0, (Lit.int .i64 x).wf = true) → l1.length ≤ maxLen → (∀ x ∈ l1, (Lit.int .i64 x).wf = true) → (Lit.int .i64 a2).wf = true → ∃ k, laws_FnExactArrayOrbit.f k l0 l1 a2 = some true
end Go.Proofs.Ytpdgiinedbdamaa.L
end
section
namespace Go.Proofs.Ytpdgiinedbdamaa.L
open Go.RowKit Go.Proofs.YtpdgiinedbdamaaW.PrintWords Go.Proofs.YtpdgiinedbdamaaW.PrintLast Go.Proofs.YtpdgiinedbdamaaW.PrintMore
attribute [local go_sem] max2_int min2_int max_two min_two max_three min_three max_four min_four
set_option linter.unusedVariables false
set_option linter.unusedSimpArgs false
def spec_poSet.f (l0_0 : List Int) (a1 : Int) : Option (Bool) := (spec_l1In.f a1 0 (wrap64 ((shl .i64 1 (l0_0.length : Int)) - 1))).bind fun t149 => (some t149)
set_option maxHeartbeats 8000000 in
set_option maxRecDepth 100000 in
theorem spec_poSet.calls (A0_0 : Option Addr) (c0_0 : Nat) (l0_0 : List Int) (a1 : Int) (r : Bool) (w : World) (hr0_0 : Kd.C (Kd.int .i64) w A0_0 l0_0.length l0_0) (hc0_0 : l0_0.length ≤ c0_0) (h : spec_poSet.f l0_0 a1 = some r) :
    Calls Try.prog 100 #[.agg #[.slice A0_0 l0_0.length c0_0], .int .i64 a1] w fun e w' => e = .returned (.bool r) ∧ Below w.heap.size w w' := by
  have hu28 := Try.underlying28
  have HR0_0 := Aside0.mk hr0_0
  have HC0_0 := Aside0.mk hc0_0
  clear hr0_0 hc0_0
  have HB := Aside0.mk (Below.refl w.heap.size w)
  have H : ((spec_l1In.f a1 0 (wrap64 ((shl .i64 1 (l0_0.length : Int)) - 1))).bind fun t149 => (some t149)) = some r := h
  clear h
  obtain ⟨ji3, hji3⟩ : ∃ j_ : Int, (shl .i64 1 (l0_0.length : Int)) = j_ := ⟨_, rfl⟩
  replace H : ((spec_l1In.f a1 0 (wrap64 ((ji3) - 1))).bind fun t149 => (some t149)) = some r := by first | (rw [hji3] at H; exact H) | (simp only [hji3] at H ⊢; exact H)
  have hji3_ : (IntKind.i64.wrap (1 * 2 ^ min (l0_0.length : Int).toNat 64)) = ji3 := hji3
  have hji3z : (l0_0.length : Int) ≤ 64 → (IntKind.i64.wrap (1 * 2 ^ (l0_0.length : Int).toNat)) = ji3 := shl_small hji3
  have hji3p : (IntKind.i64.wrap (1 * 2 ^ min l0_0.length 64)) = ji3 := hji3_
  have hji3q : (l0_0.length : Int) ≤ 64 → (IntKind.i64.wrap (1 * 2 ^ l0_0.length)) = ji3 := hji3z
  have hji3r : (IntKind.i64.wrap (2 ^ min l0_0.length 64)) = ji3 := by have h_ := hji3p; rw [Int.one_mul] at h_; exact h_
  have hji3s : (l0_0.length : Int) ≤ 64 → (IntKind.i64.wrap (2 ^ l0_0.length)) = ji3 := fun hle_ => by have h_ := hji3q hle_; rw [Int.one_mul] at h_; exact h_
  have hji3u : (IntKind.i64.wrap (2 ^ min (l0_0.length : Int).toNat 64)) = ji3 := by have h_ := hji3_; rw [Int.one_mul] at h_; exact h_
  have hji3v : (l0_0.length : Int) ≤ 64 → (IntKind.i64.wrap (2 ^ (l0_0.length : Int).toNat)) = ji3 := fun hle_ => by have h_ := hji3z hle_; rw [Int.one_mul] at h_; exact h_
  have hji3y : (wrap64 (1 * 2 ^ min (l0_0.length : Int).toNat 64)) = ji3 := (i64_w _).symm.trans hji3_
  have hji3x : (l0_0.length : Int) ≤ 64 → (wrap64 (1 * 2 ^ (l0_0.length : Int).toNat)) = ji3 := fun h_ => (i64_w _).symm.trans (hji3z h_)
  replace H := Option.bind_eq_some_iff.mp H
  obtain ⟨t149, A40, H⟩ := H
  replace H : (some t149) = some r := H
  have A4 := Aside0.mk A40
  clear A40
  obtain rfl := Option.some.inj H
  go_enter Try.func100, Try.ntmps100
  go_wp2_with (first | ((with_reducible refine gate_dst (N := 2) rfl ?_); refine box_event ?hg (N := 2) ?hd (cs := #[.slice A0_0 l0_0.length c0_0]) (t := 28) ?hr ?_; (case hd => rfl); (case hg => rfl); (case hr => first | (go_simp; done) | (go_simp; rfl)); intro gb148 hg w5 hbox hb; have n0_ := Aside0.mk (below_step (by repeat (first | (with_reducible first | exact HB.out | apply below_alloc | apply pw_below_drewN | apply below_drew1) | exact HB.out)) hb); have n1_ := Aside0.mk (hbox); have n2_ := Aside0.mk ((by rw [hg]; exact (below_size (by repeat (first | (with_reducible first | exact HB.out | apply below_alloc | apply pw_below_drewN | apply below_drew1) | exact HB.out))) : w.heap.size ≤ gb148)); have n3_ := Aside0.mk ((by rw [hg]; exact (below_size (by repeat (first | (with_reducible first | exact HB.out | apply below_alloc | apply pw_below_drewN | apply below_drew1) | exact HB.out))) : w.heap.size ≤ gb148)); clear HB; have HB := n0_; have BK148 := n1_; have GW148 := n2_; have GE148 := n3_; clear n0_ n1_ n2_ n3_; clear hb hbox hg; have hcz6_0 : w5.cell? ⟨gb148, 0, none⟩ = some (.slice A0_0 l0_0.length c0_0) := (blk_cell BK148.out 0).trans rfl; have hfz6_0 := blk_frozen BK148.out 0) | ((with_reducible refine gate_callee (f := 115) rfl ?_); refine goesL_ (some 11) rfl rfl Try.func115 (by kernel_rfl) rfl #[.int .i64 a1, .int .i64 0, .int .i64 (wrap64 ((ji3) - 1))] rfl (by (try simp only [List.map_toArray, List.map_cons, List.map_nil]); first | done | (simp only [hji3]; rfl) | rfl | (simp only [List.length_drop, List.length_take]; rfl)) ?_; (with_reducible refine (spec_l1In.calls a1 0 (wrap64 ((ji3) - 1)) t149 _ A4.out).mono ?_); rintro e w' ⟨rfl, ⟨nd, rfl⟩⟩; refine ⟨_, rfl, ?_⟩))
  go_ret
  exact ⟨by first | rfl | (simp [errW_none, errW_some] <;> rfl) | (simp only [← hji3]; first | rfl | (simp [errW_none, errW_some] <;> rfl)) | (simp [*, errW_none, errW_some] <;> rfl), by repeat (first | (with_reducible first | exact HB.out | apply below_alloc | apply pw_below_drewN | apply below_drew1 | refine below_set ?_ GE148.out) | exact HB.out)⟩
end Go.Proofs.Ytpdgiinedbdamaa.L
end
section
namespace Go.Proofs.Ytpdgiinedbdamaa.L
open Go.RowKit Go.Proofs.YtpdgiinedbdamaaW.PrintWords Go.Proofs.YtpdgiinedbdamaaW.PrintLast Go.Proofs.YtpdgiinedbdamaaW.PrintMore
attribute [local go_sem] max2_int min2_int max_two min_two max_three min_three max_four min_four
set_option linter.unusedVariables false
set_option linter.unusedSimpArgs false
def spec_poIdeal.l0 : Nat → Int → List Int → Int → Int → Option (Bool)
  | 0, _, _, _, _ => none
  | k + 1, x1, x8, x9, x10 => if x10 < x9 then (if 0 ≤ x10 then (if x10 < (x8.length : Int) then ((spec_poIn.f x1 x10).bind fun t152 => (if t152 = true then (if (Go.bits .andNot .i64 (rd x8 x10) x1) = 0 then (spec_poIdeal.l0 k x1 x8 x9 (wrap64 (x10 + 1))) else (some false)) else (spec_poIdeal.l0 k x1 x8 x9 (wrap64 (x10 + 1))))) else (none)) else (none)) else (some true)
def spec_poIdeal.f (k : Nat) (l0_0 : List Int) (a1 : Int) : Option (Bool) := spec_poIdeal.l0 k a1 l0_0 (l0_0.length : Int) 0
theorem spec_poIdeal.mono_l : ∀ k, (∀ y0 y1 y2 y3, LeO (spec_poIdeal.l0 k y0 y1 y2 y3) (spec_poIdeal.l0 (k + 1) y0 y1 y2 y3))
  | 0 => fun _ _ _ _ r h => by simp [spec_poIdeal.l0] at h
  | k + 1 => by
    have ih0 := spec_poIdeal.mono_l k
    · intro y0 y1 y2 y3
      unfold spec_poIdeal.l0
      repeat' first
      | (with_reducible exact ih0 _ _ _ _)
      | (with_reducible exact LeO.refl _)
      | (with_reducible exact LeO.none _)
      | (with_reducible refine LeO.ite ?_ ?_)
      | (with_reducible refine LeO.bind ?_ (fun _ => ?_))
      | exact ih0 _ _ _ _
      | exact LeO.none _
      | refine LeO.ite ?_ ?_
      | refine LeO.bind ?_ (fun _ => ?_)
theorem spec_poIdeal.mono : ∀ a0 a1 k, LeO (spec_poIdeal.f k a0 a1) (spec_poIdeal.f (k + 1) a0 a1) := by
  intro a0 a1 k
  have ih0 := spec_poIdeal.mono_l k
  unfold spec_poIdeal.f
  repeat' first
      | (with_reducible exact ih0 _ _ _ _)
      | (with_reducible exact LeO.refl _)
      | (with_reducible exact LeO.none _)
      | (with_reducible refine LeO.ite ?_ ?_)
      | (with_reducible refine LeO.bind ?_ (fun _ => ?_))
      | exact ih0 _ _ _ _
      | exact LeO.none _
      | refine LeO.ite ?_ ?_
      | refine LeO.bind ?_ (fun _ => ?_)
set_option maxHeartbeats 8000000 in
set_option maxRecDepth 100000 in
theorem spec_poIdeal.calls (k : Nat) (A0_0 : Option Addr) (c0_0 : Nat) (l0_0 : List Int) (a1 : Int) (r : Bool) (w : World) (hr0_0 : Kd.C (Kd.int .i64) w A0_0 l0_0.length l0_0) (hc0_0 : l0_0.length ≤ c0_0) (h : spec_poIdeal.f k l0_0 a1 = some r) :
    Calls Try.prog 101 #[.agg #[.slice A0_0 l0_0.length c0_0], .int .i64 a1] w fun e w' => e = .returned (.bool r) ∧ Below w.heap.size w w' := by
  have hu28 := Try.underlying28
  have HR0_0 := Aside0.mk hr0_0
  have HC0_0 := Aside0.mk hc0_0
  clear hr0_0 hc0_0
  have HB := Aside0.mk (Below.refl w.heap.size w)
  have H : (spec_poIdeal.l0 k a1 l0_0 (l0_0.length : Int) 0) = some r := h
  clear h
  have H' := Aside0.mk H
  clear H
  go_enter Try.func101, Try.ntmps101
  go_wp2_with (first | ((with_reducible refine gate_dst (N := 2) rfl ?_); refine box_event ?hg (N := 2) ?hd (cs := #[.slice A0_0 l0_0.length c0_0]) (t := 28) ?hr ?_; (case hd => rfl); (case hg => rfl); (case hr => first | (go_simp; done) | (go_simp; rfl)); intro gb150 hg w3 hbox hb; have n0_ := Aside0.mk (below_step (by repeat (first | (with_reducible first | exact HB.out | apply below_alloc | apply pw_below_drewN | apply below_drew1) | exact HB.out)) hb); have n1_ := Aside0.mk (hbox); have n2_ := Aside0.mk ((by rw [hg]; exact (below_size (by repeat (first | (with_reducible first | exact HB.out | apply below_alloc | apply pw_below_drewN | apply below_drew1) | exact HB.out))) : w.heap.size ≤ gb150)); have n3_ := Aside0.mk ((by rw [hg]; exact (below_size (by repeat (first | (with_reducible first | exact HB.out | apply below_alloc | apply pw_below_drewN | apply below_drew1) | exact HB.out))) : w.heap.size ≤ gb150)); clear HB; have HB := n0_; have BK150 := n1_; have GW150 := n2_; have GE150 := n3_; clear n0_ n1_ n2_ n3_; clear hb hbox hg; have hcz4_0 : w3.cell? ⟨gb150, 0, none⟩ = some (.slice A0_0 l0_0.length c0_0) := (blk_cell BK150.out 0).trans rfl; have hfz4_0 := blk_frozen BK150.out 0))
  go_loopg [10] k (fun kq v10 w' => ∃ (x10_1 : Int), v10 = .int .i64 x10_1 ∧ Aside0 (spec_poIdeal.l0 kq a1 l0_0 (l0_0.length : Int) x10_1 = some r) ∧ Aside0 (kq ≤ k) ∧ Aside0 (w'.heap[gb150]? = some (.cells #[(.slice A0_0 l0_0.length c0_0)] 28 (0, 0))) ∧ Aside0 (Below w.heap.size w w'))
  case atStart => exact ⟨(0), (by first | rfl | (simp; done) | (simp [*]; done)), H', ⟨Nat.le_refl _⟩, ⟨by (with_reducible repeat (first | refine blk_drewN ?_ _ | refine blk_drew ?_ | refine blk_alloc ?_ _)); exact BK150.out⟩, ⟨by repeat (first | (with_reducible first | exact HB.out | apply below_alloc | apply pw_below_drewN | apply below_drew1 | refine below_set ?_ GE150.out) | exact HB.out)⟩⟩
  case round =>
    clear H'
    try clear c1
    try clear p2
    try clear hcz4_0
    try clear hfz4_0
    obtain ⟨x10_1, rfl, HA, HK1, BK150, HB⟩ := hrel
    cases gk with
    | zero => exact absurd HA.out (by simp [spec_poIdeal.l0])
    | succ k1 =>
      have H := HA.out
      clear HA
      simp only [spec_poIdeal.l0] at H
      by_cases c5 : x10_1 < (l0_0.length : Int)
      · rw [if_pos c5] at H
        have c5b0 : decide (x10_1 < (l0_0.length : Int)) = true := decide_eq_true c5
        clear c5
        by_cases c6 : 0 ≤ x10_1
        · rw [if_pos c6] at H
          have c6b0 : decide (0 ≤ x10_1) = true := decide_eq_true c6
          clear c6
          by_cases c7 : x10_1 < (l0_0.length : Int)
          · rw [if_pos c7] at H
            have c7b0 : decide (x10_1 < (l0_0.length : Int)) = true := decide_eq_true c7
            clear c7
            replace H := Option.bind_eq_some_iff.mp H
            obtain ⟨t152, A80, H⟩ := H
            replace H : (if t152 = true then (if (Go.bits .andNot .i64 (rd l0_0 x10_1) a1) = 0 then (spec_poIdeal.l0 k1 a1 l0_0 (l0_0.length : Int) (wrap64 (x10_1 + 1))) else (some false)) else (spec_poIdeal.l0 k1 a1 l0_0 (l0_0.length : Int) (wrap64 (x10_1 + 1)))) = some r := H
            have A8 := Aside0.mk A80
            clear A80
            by_cases c9 : t152 = true
            · subst c9
              have H1 : (if (Go.bits .andNot .i64 (rd l0_0 x10_1) a1) = 0 then (spec_poIdeal.l0 k1 a1 l0_0 (l0_0.length : Int) (wrap64 (x10_1 + 1))) else (some false)) = some r := by rw [if_pos rfl] at H; exact H
              clear H
              have H := H1
              clear H1
              by_cases c10 : (Go.bits .andNot .i64 (rd l0_0 x10_1) a1) = 0
              · rw [if_pos c10] at H
                have c10b0 : ((Go.bits .andNot .i64 (rd l0_0 x10_1) a1) == 0) = true := beq_iff_eq.mpr c10
                have c10b1 : ((Go.bits .andNot .i64 (rd l0_0 x10_1) a1) != 0) = false := bne_eq_false_iff_eq.mpr c10
                clear c10
                have H' := Aside0.mk H
                clear H
                have p151 : 0 ≤ (x10_1 : Int) := of_decide_eq_true (by first | (with_reducible assumption) | assumption)
                have q151 : x10_1 < (l0_0.length : Int) := of_decide_eq_true (by first | (with_reducible assumption) | assumption)
                obtain ⟨ad151, e151, hx151_0⟩ := Kd.at_int HR0_0.out x10_1 p151 q151
                cases e151
                replace hx151_0 := (HB.out.cell (World.block_lt_of_cell? w _ hx151_0)).trans hx151_0
                replace p151 := eq_true p151
                replace q151 := eq_true q151
                go_wp2_with (first | ((with_reducible refine gate_callee (f := 136) rfl ?_); refine goesL_ (some 17) rfl rfl Try.func136 (by kernel_rfl) rfl #[.int .i64 a1, .int .i64 x10_1] rfl (by (try simp only [List.map_toArray, List.map_cons, List.map_nil]); first | done | rfl | (simp only [List.length_drop, List.length_take]; rfl)) ?_; (with_reducible refine (spec_poIn.calls a1 x10_1 true _ A8.out).mono ?_); rintro e w' ⟨rfl, ⟨nd, rfl⟩⟩; refine ⟨_, rfl, ?_⟩))
                go_roundg k1
                case measure => have := HK1.out; omega
                case rel => exact ⟨(wrap64 (x10_1 + 1)), (by first | rfl | (simp; done) | (simp [*]; done)), H', ⟨by have := HK1.out; omega⟩, ⟨by (with_reducible repeat (first | refine blk_drewN ?_ _ | refine blk_drew ?_ | refine blk_alloc ?_ _)); exact BK150.out⟩, ⟨by repeat (first | (with_reducible first | exact HB.out | apply below_alloc | apply pw_below_drewN | apply below_drew1 | refine below_set ?_ GE150.out) | exact HB.out)⟩⟩
              · rw [if_neg c10] at H
                have c10b0 : ((Go.bits .andNot .i64 (rd l0_0 x10_1) a1) == 0) = false := beq_eq_false_iff_ne.mpr c10
                have c10b1 : ((Go.bits .andNot .i64 (rd l0_0 x10_1) a1) != 0) = true := bne_iff_ne.mpr c10
                obtain rfl := Option.some.inj H
                have p151 : 0 ≤ (x10_1 : Int) := of_decide_eq_true (by first | (with_reducible assumption) | assumption)
                have q151 : x10_1 < (l0_0.length : Int) := of_decide_eq_true (by first | (with_reducible assumption) | assumption)
                obtain ⟨ad151, e151, hx151_0⟩ := Kd.at_int HR0_0.out x10_1 p151 q151
                cases e151
                replace hx151_0 := (HB.out.cell (World.block_lt_of_cell? w _ hx151_0)).trans hx151_0
                replace p151 := eq_true p151
                replace q151 := eq_true q151
                go_wp2_with (first | ((with_reducible refine gate_callee (f := 136) rfl ?_); refine goesL_ (some 17) rfl rfl Try.func136 (by kernel_rfl) rfl #[.int .i64 a1, .int .i64 x10_1] rfl (by (try simp only [List.map_toArray, List.map_cons, List.map_nil]); first | done | rfl | (simp only [List.length_drop, List.length_take]; rfl)) ?_; (with_reducible refine (spec_poIn.calls a1 x10_1 true _ A8.out).mono ?_); rintro e w' ⟨rfl, ⟨nd, rfl⟩⟩; refine ⟨_, rfl, ?_⟩))
                go_ret
                exact ⟨by first | rfl | (simp [errW_none, errW_some] <;> rfl) | (simp [*, errW_none, errW_some] <;> rfl), by repeat (first | (with_reducible first | exact HB.out | apply below_alloc | apply pw_below_drewN | apply below_drew1 | refine below_set ?_ GE150.out) | exact HB.out)⟩
            · replace c9 := Bool.eq_false_iff.mpr c9
              subst c9
              have H1 : (spec_poIdeal.l0 k1 a1 l0_0 (l0_0.length : Int) (wrap64 (x10_1 + 1))) = some r := by rw [if_neg (show ¬ (false = true) by decide)] at H; exact H
              clear H
              have H := H1
              clear H1
              have H' := Aside0.mk H
              clear H
              have p151 : 0 ≤ (x10_1 : Int) := of_decide_eq_true (by first | (with_reducible assumption) | assumption)
              have q151 : x10_1 < (l0_0.length : Int) := of_decide_eq_true (by first | (with_reducible assumption) | assumption)
              obtain ⟨ad151, e151, hx151_0⟩ := Kd.at_int HR0_0.out x10_1 p151 q151
              cases e151
              replace hx151_0 := (HB.out.cell (World.block_lt_of_cell? w _ hx151_0)).trans hx151_0
              replace p151 := eq_true p151
              replace q151 := eq_true q151
              go_wp2_with (first | ((with_reducible refine gate_callee (f := 136) rfl ?_); refine goesL_ (some 17) rfl rfl Try.func136 (by kernel_rfl) rfl #[.int .i64 a1, .int .i64 x10_1] rfl (by (try simp only [List.map_toArray, List.map_cons, List.map_nil]); first | done | rfl | (simp only [List.length_drop, List.length_take]; rfl)) ?_; (with_reducible refine (spec_poIn.calls a1 x10_1 false _ A8.out).mono ?_); rintro e w' ⟨rfl, ⟨nd, rfl⟩⟩; refine ⟨_, rfl, ?_⟩))
              go_roundg k1
              case measure => have := HK1.out; omega
              case rel => exact ⟨(wrap64 (x10_1 + 1)), (by first | rfl | (simp; done) | (simp [*]; done)), H', ⟨by have := HK1.out; omega⟩, ⟨by (with_reducible repeat (first | refine blk_drewN ?_ _ | refine blk_drew ?_ | refine blk_alloc ?_ _)); exact BK150.out⟩, ⟨by repeat (first | (with_reducible first | exact HB.out | apply below_alloc | apply pw_below_drewN | apply below_drew1 | refine below_set ?_ GE150.out) | exact HB.out)⟩⟩
          · rw [if_neg c7] at H
            exact absurd H (by simp)
        · rw [if_neg c6] at H
          exact absurd H (by simp)
      · rw [if_neg c5] at H
        have c5b0 : decide (x10_1 < (l0_0.length : Int)) = false := decide_eq_false c5
        clear c5
        obtain rfl := Option.some.inj H
        go_wp2
        go_ret
        exact ⟨by first | rfl | (simp [errW_none, errW_some] <;> rfl) | (simp [*, errW_none, errW_some] <;> rfl), by repeat (first | (with_reducible first | exact HB.out | apply below_alloc | apply pw_below_drewN | apply below_drew1 | refine below_set ?_ GE150.out) | exact HB.out)⟩
end Go.Proofs.Ytpdgiinedbdamaa.L
end
section
namespace Go.Proofs.Ytpdgiinedbdamaa.L
open Go.RowKit Go.Proofs.YtpdgiinedbdamaaW.PrintWords Go.Proofs.YtpdgiinedbdamaaW.PrintLast Go.Proofs.YtpdgiinedbdamaaW.PrintMore
attribute [local go_sem] max2_int min2_int max_two min_two max_three min_three max_four min_four
set_option linter.unusedVariables false
set_option linter.unusedSimpArgs false
def impl_Poset_close.l0 : Nat → Int → List Int → Int → Int → List Int → Option (Int)
  | 0, _, _, _, _, _ => none
  | k + 1, x5, x10, x11, x12, x252000 => if x12 < x11 then (if 0 ≤ x12 then (if x12 < (x10.length : Int) then (if 0 ≤ (rd x10 x12) then (if (rd x10 x12) < (x252000.length : Int) then (impl_Poset_close.l0 k (Go.bits .or .i64 x5 (rd x252000 (rd x10 x12))) x10 x11 (wrap64 (x12 + 1)) x252000) else (none)) else (none)) else (none)) else (none)) else (some x5)
def impl_Poset_close.f (k : Nat) (l0_0 : List Int) (a1 : Int) : Option (Int) := (impl_items.f k a1).bind fun t252 => (impl_Poset_close.l0 k a1 t252 (t252.length : Int) 0 l0_0)
theorem impl_Poset_close.mono_l : ∀ k, (∀ y0 y1 y2 y3 y4, LeO (impl_Poset_close.l0 k y0 y1 y2 y3 y4) (impl_Poset_close.l0 (k + 1) y0 y1 y2 y3 y4))
  | 0 => fun _ _ _ _ _ r h => by simp [impl_Poset_close.l0] at h
  | k + 1 => by
    have ih0 := impl_Poset_close.mono_l k
    · intro y0 y1 y2 y3 y4
      unfold impl_Poset_close.l0
      repeat' first
      | (with_reducible exact ih0 _ _ _ _ _)
      | (with_reducible exact impl_items.mono _ _)
      | (with_reducible exact LeO.refl _)
      | (with_reducible exact LeO.none _)
      | (with_reducible refine LeO.ite ?_ ?_)
      | (with_reducible refine LeO.bind ?_ (fun _ => ?_))
      | exact ih0 _ _ _ _ _
      | exact impl_items.mono _ _
      | exact LeO.none _
      | refine LeO.ite ?_ ?_
      | refine LeO.bind ?_ (fun _ => ?_)
theorem impl_Poset_close.mono : ∀ a0 a1 k, LeO (impl_Poset_close.f k a0 a1) (impl_Poset_close.f (k + 1) a0 a1) := by
  intro a0 a1 k
  have ih0 := impl_Poset_close.mono_l k
  unfold impl_Poset_close.f
  repeat' first
      | (with_reducible exact ih0 _ _ _ _ _)
      | (with_reducible exact impl_items.mono _ _)
      | (with_reducible exact LeO.refl _)
      | (with_reducible exact LeO.none _)
      | (with_reducible refine LeO.ite ?_ ?_)
      | (with_reducible refine LeO.bind ?_ (fun _ => ?_))
      | exact ih0 _ _ _ _ _
      | exact impl_items.mono _ _
      | exact LeO.none _
      | refine LeO.ite ?_ ?_
      | refine LeO.bind ?_ (fun _ => ?_)
set_option maxHeartbeats 8000000 in
set_option maxRecDepth 100000 in
theorem impl_Poset_close.calls (k : Nat) (A0_0 : Option Addr) (c0_0 : Nat) (l0_0 : List Int) (a1 : Int) (r : Int) (w : World) (hr0_0 : Kd.C (Kd.int .i64) w A0_0 l0_0.length l0_0) (hc0_0 : l0_0.length ≤ c0_0) (h : impl_Poset_close.f k l0_0 a1 = some r) :
    Calls Try.prog 125 #[.agg #[.slice A0_0 l0_0.length c0_0], .int .i64 a1] w fun e w' => e = .returned (.int .i64 r) ∧ Below w.heap.size w w' := by
  have hu28 := Try.underlying28
  have HR0_0 := Aside0.mk hr0_0
  have HC0_0 := Aside0.mk hc0_0
  clear hr0_0 hc0_0
  have HB := Aside0.mk (Below.refl w.heap.size w)
  have H : ((impl_items.f k a1).bind fun t252 => (impl_Poset_close.l0 k a1 t252 (t252.length : Int) 0 l0_0)) = some r := h
  clear h
  replace H := Option.bind_eq_some_iff.mp H
  obtain ⟨t252, A30, H⟩ := H
  replace H : (impl_Poset_close.l0 k a1 t252 (t252.length : Int) 0 l0_0) = some r := H
  have A3 := Aside0.mk A30
  clear A30
  have H' := Aside0.mk H
  clear H
  go_enter Try.func125, Try.ntmps125
  go_wp2_with (first | ((with_reducible refine gate_dst (N := 2) rfl ?_); refine box_event ?hg (N := 2) ?hd (cs := #[.slice A0_0 l0_0.length c0_0]) (t := 28) ?hr ?_; (case hd => rfl); (case hg => rfl); (case hr => first | (go_simp; done) | (go_simp; rfl)); intro gb251 hg w4 hbox hb; have n0_ := Aside0.mk (below_step (by repeat (first | (with_reducible first | exact HB.out | apply below_alloc | apply pw_below_drewN | apply below_drew1) | exact HB.out)) hb); have n1_ := Aside0.mk (hbox); have n2_ := Aside0.mk ((by rw [hg]; exact (below_size (by repeat (first | (with_reducible first | exact HB.out | apply below_alloc | apply pw_below_drewN | apply below_drew1) | exact HB.out))) : w.heap.size ≤ gb251)); have n3_ := Aside0.mk ((by rw [hg]; exact (below_size (by repeat (first | (with_reducible first | exact HB.out | apply below_alloc | apply pw_below_drewN | apply below_drew1) | exact HB.out))) : w.heap.size ≤ gb251)); clear HB; have HB := n0_; have BK251 := n1_; have GW251 := n2_; have GE251 := n3_; clear n0_ n1_ n2_ n3_; clear hb hbox hg) | ((with_reducible refine gate_callee (f := 106) rfl ?_); refine goesL_ (some 10) rfl rfl Try.func106 (by kernel_rfl) rfl #[.int .i64 a1] rfl (by (try simp only [List.map_toArray, List.map_cons, List.map_nil]); first | done | rfl | (simp only [List.length_drop, List.length_take]; rfl)) ?_; (with_reducible refine (impl_items.calls k a1 t252 _ A3.out).mono ?_); rintro e w5 ⟨v253, rfl, ho0, hb⟩; refine ⟨_, rfl, ?_⟩; have n0_ := Aside0.mk (Kd.R_lower ho0 (below_size (by repeat (first | (with_reducible first | exact HB.out | apply below_alloc | apply pw_below_drewN | apply below_drew1 | refine below_set ?_ GE251.out) | exact HB.out)))); have n1_ := Aside0.mk (blk_below (g := gb251) (o := .cells #[.slice A0_0 l0_0.length c0_0] 28 (0, 0)) (by (with_reducible repeat (first | refine blk_drewN ?_ _ | refine blk_drew ?_ | refine blk_alloc ?_ _)); exact BK251.out) hb); have n2_ := Aside0.mk (below_step (by repeat (first | (with_reducible first | exact HB.out | apply below_alloc | apply pw_below_drewN | apply below_drew1 | refine below_set ?_ GE251.out) | exact HB.out)) hb); clear BK251; clear HB; have HO254 := n0_; have BK251 := n1_; have HB := n2_; clear n0_ n1_ n2_; (try clear hb); (try clear hb2); (try clear hk); (try clear hi); (try clear ho0); obtain ⟨Ao6, co6, eo6⟩ := Kd.R_slice HO254.out; subst eo6))
  go_loopg [5, 12] k (fun kq v5 v12 w' => ∃ (x5_1 : Int) (x12_1 : Int), v5 = .int .i64 x5_1 ∧ v12 = .int .i64 x12_1 ∧ Aside0 (impl_Poset_close.l0 kq x5_1 t252 (t252.length : Int) x12_1 l0_0 = some r) ∧ Aside0 (kq ≤ k) ∧ Aside0 (Kd.R (Kd.int .i64) 3 w' w.heap.size (fun _ => True) (.slice Ao6 t252.length co6) t252) ∧ Aside0 (w'.heap[gb251]? = some (.cells #[(.slice A0_0 l0_0.length c0_0)] 28 (0, 0))) ∧ Aside0 (Below w.heap.size w w'))
  case atStart => exact ⟨(a1), (0), (by first | rfl | (simp; done) | (simp [*]; done)), (by first | rfl | (simp; done) | (simp [*]; done)), H', ⟨Nat.le_refl _⟩, ⟨by (with_reducible repeat (first | apply Kd.R_alloc | apply Kd.R_drewN | apply Kd.R_drew)); exact HO254.out⟩, ⟨by (with_reducible repeat (first | refine blk_drewN ?_ _ | refine blk_drew ?_ | refine blk_alloc ?_ _)); exact BK251.out⟩, ⟨by repeat (first | (with_reducible first | exact HB.out | apply below_alloc | apply pw_below_drewN | apply below_drew1 | refine below_set ?_ GE251.out) | exact HB.out)⟩⟩
  case round =>
    clear H'
    try clear c1
    try clear p2
    obtain ⟨x5_1, x12_1, rfl, rfl, HA, HK1, HO_10, BK251, HB⟩ := hrel
    cases gk with
    | zero => exact absurd HA.out (by simp [impl_Poset_close.l0])
    | succ k1 =>
      have H := HA.out
      clear HA
      simp only [impl_Poset_close.l0] at H
      by_cases c7 : x12_1 < (t252.length : Int)
      · rw [if_pos c7] at H
        have c7b0 : decide (x12_1 < (t252.length : Int)) = true := decide_eq_true c7
        clear c7
        by_cases c8 : 0 ≤ x12_1
        · rw [if_pos c8] at H
          have c8b0 : decide (0 ≤ x12_1) = true := decide_eq_true c8
          clear c8
          by_cases c9 : x12_1 < (t252.length : Int)
          · rw [if_pos c9] at H
            have c9b0 : decide (x12_1 < (t252.length : Int)) = true := decide_eq_true c9
            clear c9
            by_cases c10 : 0 ≤ (rd t252 x12_1)
            · rw [if_pos c10] at H
              have c10b0 : decide (0 ≤ (rd t252 x12_1)) = true := decide_eq_true c10
              clear c10
              by_cases c11 : (rd t252 x12_1) < (l0_0.length : Int)
              · rw [if_pos c11] at H
                have c11b0 : decide ((rd t252 x12_1) < (l0_0.length : Int)) = true := decide_eq_true c11
                clear c11
                have H' := Aside0.mk H
                clear H
                have p255 : 0 ≤ (x12_1 : Int) := of_decide_eq_true (by first | (with_reducible assumption) | assumption)
                have q255 : x12_1 < (t252.length : Int) := of_decide_eq_true (by first | (with_reducible assumption) | assumption)
                obtain ⟨ad255, e255, hx255_0⟩ := Kd.at_int (Kd.R_reads' HO_10.out).2.2 x12_1 p255 q255
                cases e255
                replace p255 := eq_true p255
                replace q255 := eq_true q255
                have hcz12_0 : wr.cell? ⟨gb251, 0, none⟩ = some (.slice A0_0 l0_0.length c0_0) := (blk_cell BK251.out 0).trans rfl
                have hfz12_0 := blk_frozen BK251.out 0
                have p256 : 0 ≤ ((rd t252 x12_1) : Int) := of_decide_eq_true (by first | (with_reducible assumption) | assumption)
                have q256 : (rd t252 x12_1) < (l0_0.length : Int) := of_decide_eq_true (by first | (with_reducible assumption) | assumption)
                obtain ⟨ad256, e256, hx256_0⟩ := Kd.at_int HR0_0.out (rd t252 x12_1) p256 q256
                cases e256
                replace hx256_0 := (HB.out.cell (World.block_lt_of_cell? w _ hx256_0)).trans hx256_0
                replace p256 := eq_true p256
                replace q256 := eq_true q256
                go_wp2
                go_roundg k1
                case measure => have := HK1.out; omega
                case rel => exact ⟨(Go.bits .or .i64 x5_1 (rd l0_0 (rd t252 x12_1))), (wrap64 (x12_1 + 1)), (by first | rfl | (simp; done) | (simp [*]; done)), (by first | rfl | (simp; done) | (simp [*]; done)), H', ⟨by have := HK1.out; omega⟩, ⟨by (with_reducible repeat (first | apply Kd.R_alloc | apply Kd.R_drewN | apply Kd.R_drew)); exact HO_10.out⟩, ⟨by (with_reducible repeat (first | refine blk_drewN ?_ _ | refine blk_drew ?_ | refine blk_alloc ?_ _)); exact BK251.out⟩, ⟨by repeat (first | (with_reducible first | exact HB.out | apply below_alloc | apply pw_below_drewN | apply below_drew1 | refine below_set ?_ GE251.out) | exact HB.out)⟩⟩
              · rw [if_neg c11] at H
                exact absurd H (by simp)
            · rw [if_neg c10] at H
              exact absurd H (by simp)
          · rw [if_neg c9] at H
            exact absurd H (by simp)
        · rw [if_neg c8] at H
          exact absurd H (by simp)
      · rw [if_neg c7] at H
        have c7b0 : decide (x12_1 < (t252.length : Int)) = false := decide_eq_false c7
        clear c7
        obtain rfl := Option.some.inj H
        go_wp2
        go_ret
        exact ⟨by first | rfl | (simp [errW_none, errW_some] <;> rfl) | (simp [*, errW_none, errW_some] <;> rfl), by repeat (first | (with_reducible first | exact HB.out | apply below_alloc | apply pw_below_drewN | apply below_drew1 | refine below_set ?_ GE251.out) | exact HB.out)⟩
end Go.Proofs.Ytpdgiinedbdamaa.L
end
section
namespace Go.Proofs.Ytpdgiinedbdamaa.L
open Go.RowKit Go.Proofs.YtpdgiinedbdamaaW.PrintWords Go.Proofs.YtpdgiinedbdamaaW.PrintLast Go.Proofs.YtpdgiinedbdamaaW.PrintMore
attribute [local go_sem] max2_int min2_int max_two min_two max_three min_three max_four min_four
set_option linter.unusedVariables false
set_option linter.unusedSimpArgs false
def impl_Poset_all.f (l0_0 : List Int) : Option (Int) := (impl_Poset_n.f l0_0).bind fun t258 => (if 0 ≤ t258 then (some (wrap64 ((shl .i64 1 t258) - 1))) else (none))
set_option maxHeartbeats 8000000 in
set_option maxRecDepth 100000 in
theorem impl_Poset_all.calls (A0_0 : Option Addr) (c0_0 : Nat) (l0_0 : List Int) (r : Int) (w : World) (hr0_0 : Kd.C (Kd.int .i64) w A0_0 l0_0.length l0_0) (hc0_0 : l0_0.length ≤ c0_0) (h : impl_Poset_all.f l0_0 = some r) :
    Calls Try.prog 156 #[.agg #[.slice A0_0 l0_0.length c0_0]] w fun e w' => e = .returned (.int .i64 r) ∧ Below w.heap.size w w' := by
  have hu28 := Try.underlying28
  have HR0_0 := Aside0.mk hr0_0
  have HC0_0 := Aside0.mk hc0_0
  clear hr0_0 hc0_0
  have HB := Aside0.mk (Below.refl w.heap.size w)
  have H : ((impl_Poset_n.f l0_0).bind fun t258 => (if 0 ≤ t258 then (some (wrap64 ((shl .i64 1 t258) - 1))) else (none))) = some r := h
  clear h
  replace H := Option.bind_eq_some_iff.mp H
  obtain ⟨t258, A20, H⟩ := H
  replace H : (if 0 ≤ t258 then (some (wrap64 ((shl .i64 1 t258) - 1))) else (none)) = some r := H
  have A2 := Aside0.mk A20
  clear A20
  by_cases c3 : 0 ≤ t258
  · rw [if_pos c3] at H
    have c3b0 := eq_true c3
    have c3b1 : decide (0 ≤ t258) = true := decide_eq_true c3
    clear c3
    obtain ⟨ji4, hji4⟩ : ∃ j_ : Int, (shl .i64 1 t258) = j_ := ⟨_, rfl⟩
    replace H : (some (wrap64 ((ji4) - 1))) = some r := by first | (rw [hji4] at H; exact H) | (simp only [hji4] at H ⊢; exact H)
    (try rw [hji4] at A2)
    have hji4_ : (IntKind.i64.wrap (1 * 2 ^ min t258.toNat 64)) = ji4 := hji4
    have hji4z : t258 ≤ 64 → (IntKind.i64.wrap (1 * 2 ^ t258.toNat)) = ji4 := shl_small hji4
    have hji4u : (IntKind.i64.wrap (2 ^ min t258.toNat 64)) = ji4 := by have h_ := hji4_; rw [Int.one_mul] at h_; exact h_
    have hji4v : t258 ≤ 64 → (IntKind.i64.wrap (2 ^ t258.toNat)) = ji4 := fun hle_ => by have h_ := hji4z hle_; rw [Int.one_mul] at h_; exact h_
    have hji4y : (wrap64 (1 * 2 ^ min t258.toNat 64)) = ji4 := (i64_w _).symm.trans hji4_
    have hji4x : t258 ≤ 64 → (wrap64 (1 * 2 ^ t258.toNat)) = ji4 := fun h_ => (i64_w _).symm.trans (hji4z h_)
    obtain rfl := Option.some.inj H
    go_enter Try.func156, Try.ntmps156
    go_wp2_with (first | ((with_reducible refine gate_dst (N := 1) rfl ?_); refine box_event ?hg (N := 1) ?hd (cs := #[.slice A0_0 l0_0.length c0_0]) (t := 28) ?hr ?_; (case hd => rfl); (case hg => rfl); (case hr => first | (go_simp; done) | (go_simp; rfl)); intro gb257 hg w5 hbox hb; have n0_ := Aside0.mk (below_step (by repeat (first | (with_reducible first | exact HB.out | apply below_alloc | apply pw_below_drewN | apply below_drew1) | exact HB.out)) hb); have n1_ := Aside0.mk (hbox); have n2_ := Aside0.mk ((by rw [hg]; exact (below_size (by repeat (first | (with_reducible first | exact HB.out | apply below_alloc | apply pw_below_drewN | apply below_drew1) | exact HB.out))) : w.heap.size ≤ gb257)); have n3_ := Aside0.mk ((by rw [hg]; exact (below_size (by repeat (first | (with_reducible first | exact HB.out | apply below_alloc | apply pw_below_drewN | apply below_drew1) | exact HB.out))) : w.heap.size ≤ gb257)); clear HB; have HB := n0_; have BK257 := n1_; have GW257 := n2_; have GE257 := n3_; clear n0_ n1_ n2_ n3_; clear hb hbox hg; have hcz6_0 : w5.cell? ⟨gb257, 0, none⟩ = some (.slice A0_0 l0_0.length c0_0) := (blk_cell BK257.out 0).trans rfl; have hfz6_0 := blk_frozen BK257.out 0) | ((with_reducible refine gate_callee (f := 60) rfl ?_); refine goesL_ (some 4) rfl rfl Try.func60 (by kernel_rfl) rfl #[.agg #[.slice A0_0 l0_0.length c0_0]] rfl (by (try simp only [List.map_toArray, List.map_cons, List.map_nil]); first | done | rfl | (simp only [List.length_drop, List.length_take]; rfl)) ?_; (with_reducible refine (impl_Poset_n.calls _ _ l0_0 t258 _ ?side1 ?side2 A2.out).mono ?_); (case side1 => repeat (first | exact (Kd.C_below HR0_0.out HB.out) | (with_reducible refine Kd.C_alloc ?_ _) | (with_reducible refine Kd.C_drewN ?_ _) | (with_reducible refine Kd.C_drew ?_))); (case side2 => exact HC0_0.out); rintro e w7 ⟨rfl, hb⟩; refine ⟨_, rfl, ?_⟩; have n0_ := Aside0.mk (blk_below (g := gb257) (o := .cells #[.slice A0_0 l0_0.length c0_0] 28 (0, 0)) (by (with_reducible repeat (first | refine blk_drewN ?_ _ | refine blk_drew ?_ | refine blk_alloc ?_ _)); exact BK257.out) hb); have n1_ := Aside0.mk (below_step (by repeat (first | (with_reducible first | exact HB.out | apply below_alloc | apply pw_below_drewN | apply below_drew1 | refine below_set ?_ GE257.out) | exact HB.out)) hb); clear BK257; clear HB; have BK257 := n0_; have HB := n1_; clear n0_ n1_; (try clear hb); (try clear hb2); (try clear hk); (try clear hi)))
    go_ret
    exact ⟨by first | rfl | (simp [errW_none, errW_some] <;> rfl) | (simp only [← hji4]; first | rfl | (simp [errW_none, errW_some] <;> rfl)) | (simp [*, errW_none, errW_some] <;> rfl), by repeat (first | (with_reducible first | exact HB.out | apply below_alloc | apply pw_below_drewN | apply below_drew1 | refine below_set ?_ GE257.out) | exact HB.out)⟩
  · rw [if_neg c3] at H
    exact absurd H (by simp)
end Go.Proofs.Ytpdgiinedbdamaa.L
end
section
namespace Go.Proofs.Ytpdgiinedbdamaa.L
open Go.RowKit Go.Proofs.YtpdgiinedbdamaaW.PrintWords Go.Proofs.YtpdgiinedbdamaaW.PrintLast Go.Proofs.YtpdgiinedbdamaaW.PrintMore
attribute [local go_sem] max2_int min2_int max_two min_two max_three min_three max_four min_four
set_option linter.unusedVariables false
set_option linter.unusedSimpArgs false
def impl_isSet.f (k : Nat) (l0_0 : List Int) (a1 : Int) : Option (Bool) := (impl_IsPoset.f k l0_0).bind fun t260 => (if t260 = true then ((impl_Poset_all.f l0_0).bind fun t261 => ((impl_within.f a1 0 t261).bind fun t262 => (some t262))) else (some false))
theorem impl_isSet.mono : ∀ a0 a1 k, LeO (impl_isSet.f k a0 a1) (impl_isSet.f (k + 1) a0 a1) := by
  intro a0 a1 k
  unfold impl_isSet.f
  repeat' first
      | (with_reducible exact impl_IsPoset.mono _ _)
      | (with_reducible exact LeO.refl _)
      | (with_reducible exact LeO.none _)
      | (with_reducible refine LeO.ite ?_ ?_)
      | (with_reducible refine LeO.bind ?_ (fun _ => ?_))
      | exact impl_IsPoset.mono _ _
      | exact LeO.none _
      | refine LeO.ite ?_ ?_
      | refine LeO.bind ?_ (fun _ => ?_)
set_option maxHeartbeats 8000000 in
set_option maxRecDepth 100000 in
theorem impl_isSet.calls (k : Nat) (A0_0 : Option Addr) (c0_0 : Nat) (l0_0 : List Int) (a1 : Int) (r : Bool) (w : World) (hr0_0 : Kd.C (Kd.int .i64) w A0_0 l0_0.length l0_0) (hc0_0 : l0_0.length ≤ c0_0) (h : impl_isSet.f k l0_0 a1 = some r) :
    Calls Try.prog 138 #[.agg #[.slice A0_0 l0_0.length c0_0], .int .i64 a1] w fun e w' => e = .returned (.bool r) ∧ Below w.heap.size w w' := by
  have hu28 := Try.underlying28
  have HR0_0 := Aside0.mk hr0_0
  have HC0_0 := Aside0.mk hc0_0
  clear hr0_0 hc0_0
  have HB := Aside0.mk (Below.refl w.heap.size w)
  have H : ((impl_IsPoset.f k l0_0).bind fun t260 => (if t260 = true then ((impl_Poset_all.f l0_0).bind fun t261 => ((impl_within.f a1 0 t261).bind fun t262 => (some t262))) else (some false))) = some r := h
  clear h
  replace H := Option.bind_eq_some_iff.mp H
  obtain ⟨t260, A30, H⟩ := H
  replace H : (if t260 = true then ((impl_Poset_all.f l0_0).bind fun t261 => ((impl_within.f a1 0 t261).bind fun t262 => (some t262))) else (some false)) = some r := H
  have A3 := Aside0.mk A30
  clear A30
  by_cases c4 : t260 = true
  · subst c4
    have H1 : ((impl_Poset_all.f l0_0).bind fun t261 => ((impl_within.f a1 0 t261).bind fun t262 => (some t262))) = some r := by rw [if_pos rfl] at H; exact H
    clear H
    have H := H1
    clear H1
    replace H := Option.bind_eq_some_iff.mp H
    obtain ⟨t261, A50, H⟩ := H
    replace H : ((impl_within.f a1 0 t261).bind fun t262 => (some t262)) = some r := H
    have A5 := Aside0.mk A50
    clear A50
    replace H := Option.bind_eq_some_iff.mp H
    obtain ⟨t262, A60, H⟩ := H
    replace H : (some t262) = some r := H
    have A6 := Aside0.mk A60
    clear A60
    obtain rfl := Option.some.inj H
    go_enter Try.func138, Try.ntmps138
    go_wp2_with (first | ((with_reducible refine gate_dst (N := 2) rfl ?_); refine box_event ?hg (N := 2) ?hd (cs := #[.slice A0_0 l0_0.length c0_0]) (t := 28) ?hr ?_; (case hd => rfl); (case hg => rfl); (case hr => first | (go_simp; done) | (go_simp; rfl)); intro gb259 hg w7 hbox hb; have n0_ := Aside0.mk (below_step (by repeat (first | (with_reducible first | exact HB.out | apply below_alloc | apply pw_below_drewN | apply below_drew1) | exact HB.out)) hb); have n1_ := Aside0.mk (hbox); have n2_ := Aside0.mk ((by rw [hg]; exact (below_size (by repeat (first | (with_reducible first | exact HB.out | apply below_alloc | apply pw_below_drewN | apply below_drew1) | exact HB.out))) : w.heap.size ≤ gb259)); have n3_ := Aside0.mk ((by rw [hg]; exact (below_size (by repeat (first | (with_reducible first | exact HB.out | apply below_alloc | apply pw_below_drewN | apply below_drew1) | exact HB.out))) : w.heap.size ≤ gb259)); clear HB; have HB := n0_; have BK259 := n1_; have GW259 := n2_; have GE259 := n3_; clear n0_ n1_ n2_ n3_; clear hb hbox hg; have hcz8_0 : w7.cell? ⟨gb259, 0, none⟩ = some (.slice A0_0 l0_0.length c0_0) := (blk_cell BK259.out 0).trans rfl; have hfz8_0 := blk_frozen BK259.out 0) | ((with_reducible refine gate_callee (f := 91) rfl ?_); refine goesL_ (some 6) rfl rfl Try.func91 (by kernel_rfl) rfl #[.agg #[.slice A0_0 l0_0.length c0_0]] rfl (by (try simp only [List.map_toArray, List.map_cons, List.map_nil]); first | done | rfl | (simp only [List.length_drop, List.length_take]; rfl)) ?_; (with_reducible refine (impl_IsPoset.calls k _ _ l0_0 true _ ?side1 ?side2 A3.out).mono ?_); (case side1 => repeat (first | exact (Kd.C_below HR0_0.out HB.out) | (with_reducible refine Kd.C_alloc ?_ _) | (with_reducible refine Kd.C_drewN ?_ _) | (with_reducible refine Kd.C_drew ?_))); (case side2 => exact HC0_0.out); rintro e w9 ⟨rfl, hb⟩; refine ⟨_, rfl, ?_⟩; have n0_ := Aside0.mk (blk_below (g := gb259) (o := .cells #[.slice A0_0 l0_0.length c0_0] 28 (0, 0)) (by (with_reducible repeat (first | refine blk_drewN ?_ _ | refine blk_drew ?_ | refine blk_alloc ?_ _)); exact BK259.out) hb); have n1_ := Aside0.mk (below_step (by repeat (first | (with_reducible first | exact HB.out | apply below_alloc | apply pw_below_drewN | apply below_drew1 | refine below_set ?_ GE259.out) | exact HB.out)) hb); clear BK259; clear HB; have BK259 := n0_; have HB := n1_; clear n0_ n1_; (try clear hb); (try clear hb2); (try clear hk); (try clear hi); have hcz10_0 : w9.cell? ⟨gb259, 0, none⟩ = some (.slice A0_0 l0_0.length c0_0) := (blk_cell BK259.out 0).trans rfl; have hfz10_0 := blk_frozen BK259.out 0) | (go_at_call 156; (with_reducible refine (impl_Poset_all.calls _ _ l0_0 t261 _ ?side1 ?side2 A5.out).mono ?_); (case side1 => repeat (first | exact (Kd.C_below HR0_0.out HB.out) | (with_reducible refine Kd.C_alloc ?_ _) | (with_reducible refine Kd.C_drewN ?_ _) | (with_reducible refine Kd.C_drew ?_))); (case side2 => exact HC0_0.out); rintro e w11 ⟨rfl, hb⟩; have n0_ := Aside0.mk (blk_below (g := gb259) (o := .cells #[.slice A0_0 l0_0.length c0_0] 28 (0, 0)) (by (with_reducible repeat (first | refine blk_drewN ?_ _ | refine blk_drew ?_ | refine blk_alloc ?_ _)); exact BK259.out) hb); have n1_ := Aside0.mk (below_step (by repeat (first | (with_reducible first | exact HB.out | apply below_alloc | apply pw_below_drewN | apply below_drew1 | refine below_set ?_ GE259.out) | exact HB.out)) hb); clear BK259; clear HB; have BK259 := n0_; have HB := n1_; clear n0_ n1_; (try clear hb); (try clear hb2); (try clear hk); (try clear hi)) | (go_at_call 74; (with_reducible refine (impl_within.calls a1 0 t261 t262 _ A6.out).mono ?_); rintro e w' ⟨rfl, ⟨nd, rfl⟩⟩))
    go_ret
    exact ⟨by first | rfl | (simp [errW_none, errW_some] <;> rfl) | (simp [*, errW_none, errW_some] <;> rfl), by repeat (first | (with_reducible first | exact HB.out | apply below_alloc | apply pw_below_drewN | apply below_drew1 | refine below_set ?_ GE259.out) | exact HB.out)⟩
  · replace c4 := Bool.eq_false_iff.mpr c4
    subst c4
    have H1 : (some false) = some r := by rw [if_neg (show ¬ (false = true) by decide)] at H; exact H
    clear H
    have H := H1
    clear H1
    obtain rfl := Option.some.inj H
    go_enter Try.func138, Try.ntmps138
    go_wp2_with (first | ((with_reducible refine gate_dst (N := 2) rfl ?_); refine box_event ?hg (N := 2) ?hd (cs := #[.slice A0_0 l0_0.length c0_0]) (t := 28) ?hr ?_; (case hd => rfl); (case hg => rfl); (case hr => first | (go_simp; done) | (go_simp; rfl)); intro gb259 hg w12 hbox hb; have n0_ := Aside0.mk (below_step (by repeat (first | (with_reducible first | exact HB.out | apply below_alloc | apply pw_below_drewN | apply below_drew1) | exact HB.out)) hb); have n1_ := Aside0.mk (hbox); have n2_ := Aside0.mk ((by rw [hg]; exact (below_size (by repeat (first | (with_reducible first | exact HB.out | apply below_alloc | apply pw_below_drewN | apply below_drew1) | exact HB.out))) : w.heap.size ≤ gb259)); have n3_ := Aside0.mk ((by rw [hg]; exact (below_size (by repeat (first | (with_reducible first | exact HB.out | apply below_alloc | apply pw_below_drewN | apply below_drew1) | exact HB.out))) : w.heap.size ≤ gb259)); clear HB; have HB := n0_; have BK259 := n1_; have GW259 := n2_; have GE259 := n3_; clear n0_ n1_ n2_ n3_; clear hb hbox hg; have hcz13_0 : w12.cell? ⟨gb259, 0, none⟩ = some (.slice A0_0 l0_0.length c0_0) := (blk_cell BK259.out 0).trans rfl; have hfz13_0 := blk_frozen BK259.out 0) | ((with_reducible refine gate_callee (f := 91) rfl ?_); refine goesL_ (some 6) rfl rfl Try.func91 (by kernel_rfl) rfl #[.agg #[.slice A0_0 l0_0.length c0_0]] rfl (by (try simp only [List.map_toArray, List.map_cons, List.map_nil]); first | done | rfl | (simp only [List.length_drop, List.length_take]; rfl)) ?_; (with_reducible refine (impl_IsPoset.calls k _ _ l0_0 false _ ?side1 ?side2 A3.out).mono ?_); (case side1 => repeat (first | exact (Kd.C_below HR0_0.out HB.out) | (with_reducible refine Kd.C_alloc ?_ _) | (with_reducible refine Kd.C_drewN ?_ _) | (with_reducible refine Kd.C_drew ?_))); (case side2 => exact HC0_0.out); rintro e w14 ⟨rfl, hb⟩; refine ⟨_, rfl, ?_⟩; have n0_ := Aside0.mk (blk_below (g := gb259) (o := .cells #[.slice A0_0 l0_0.length c0_0] 28 (0, 0)) (by (with_reducible repeat (first | refine blk_drewN ?_ _ | refine blk_drew ?_ | refine blk_alloc ?_ _)); exact BK259.out) hb); have n1_ := Aside0.mk (below_step (by repeat (first | (with_reducible first | exact HB.out | apply below_alloc | apply pw_below_drewN | apply below_drew1 | refine below_set ?_ GE259.out) | exact HB.out)) hb); clear BK259; clear HB; have BK259 := n0_; have HB := n1_; clear n0_ n1_; (try clear hb); (try clear hb2); (try clear hk); (try clear hi)))
    go_ret
    exact ⟨by first | rfl | (simp [errW_none, errW_some] <;> rfl) | (simp [*, errW_none, errW_some] <;> rfl), by repeat (first | (with_reducible first | exact HB.out | apply below_alloc | apply pw_below_drewN | apply below_drew1 | refine below_set ?_ GE259.out) | exact HB.out)⟩
end Go.Proofs.Ytpdgiinedbdamaa.L
end
section
namespace Go.Proofs.Ytpdgiinedbdamaa.L
open Go.RowKit Go.Proofs.YtpdgiinedbdamaaW.PrintWords Go.Proofs.YtpdgiinedbdamaaW.PrintLast Go.Proofs.YtpdgiinedbdamaaW.PrintMore
attribute [local go_sem] max2_int min2_int max_two min_two max_three min_three max_four min_four
set_option linter.unusedVariables false
set_option linter.unusedSimpArgs false
def impl_isIdeal.f (k : Nat) (l0_0 : List Int) (a1 : Int) : Option (Bool) := (impl_isSet.f k l0_0 a1).bind fun t264 => (if t264 = true then ((impl_Poset_close.f k l0_0 a1).bind fun t265 => (some (t265 == a1))) else (some false))
theorem impl_isIdeal.mono : ∀ a0 a1 k, LeO (impl_isIdeal.f k a0 a1) (impl_isIdeal.f (k + 1) a0 a1) := by
  intro a0 a1 k
  unfold impl_isIdeal.f
  repeat' first
      | (with_reducible exact impl_Poset_close.mono _ _ _)
      | (with_reducible exact impl_isSet.mono _ _ _)
      | (with_reducible exact LeO.refl _)
      | (with_reducible exact LeO.none _)
      | (with_reducible refine LeO.ite ?_ ?_)
      | (with_reducible refine LeO.bind ?_ (fun _ => ?_))
      | exact impl_Poset_close.mono _ _ _
      | exact impl_isSet.mono _ _ _
      | exact LeO.none _
      | refine LeO.ite ?_ ?_
      | refine LeO.bind ?_ (fun _ => ?_)
set_option maxHeartbeats 8000000 in
set_option maxRecDepth 100000 in
theorem impl_isIdeal.calls (k : Nat) (A0_0 : Option Addr) (c0_0 : Nat) (l0_0 : List Int) (a1 : Int) (r : Bool) (w : World) (hr0_0 : Kd.C (Kd.int .i64) w A0_0 l0_0.length l0_0) (hc0_0 : l0_0.length ≤ c0_0) (h : impl_isIdeal.f k l0_0 a1 = some r) :
    Calls Try.prog 103 #[.agg #[.slice A0_0 l0_0.length c0_0], .int .i64 a1] w fun e w' => e = .returned (.bool r) ∧ Below w.heap.size w w' := by
  have hu28 := Try.underlying28
  have HR0_0 := Aside0.mk hr0_0
  have HC0_0 := Aside0.mk hc0_0
  clear hr0_0 hc0_0
  have HB := Aside0.mk (Below.refl w.heap.size w)
  have H : ((impl_isSet.f k l0_0 a1).bind fun t264 => (if t264 = true then ((impl_Poset_close.f k l0_0 a1).bind fun t265 => (some (t265 == a1))) else (some false))) = some r := h
  clear h
  replace H := Option.bind_eq_some_iff.mp H
  obtain ⟨t264, A30, H⟩ := H
  replace H : (if t264 = true then ((impl_Poset_close.f k l0_0 a1).bind fun t265 => (some (t265 == a1))) else (some false)) = some r := H
  have A3 := Aside0.mk A30
  clear A30
  by_cases c4 : t264 = true
  · subst c4
    have H1 : ((impl_Poset_close.f k l0_0 a1).bind fun t265 => (some (t265 == a1))) = some r := by rw [if_pos rfl] at H; exact H
    clear H
    have H := H1
    clear H1
    replace H := Option.bind_eq_some_iff.mp H
    obtain ⟨t265, A50, H⟩ := H
    replace H : (some (t265 == a1)) = some r := H
    have A5 := Aside0.mk A50
    clear A50
    obtain rfl := Option.some.inj H
    go_enter Try.func103, Try.ntmps103
    go_wp2_with (first | ((with_reducible refine gate_dst (N := 2) rfl ?_); refine box_event ?hg (N := 2) ?hd (cs := #[.slice A0_0 l0_0.length c0_0]) (t := 28) ?hr ?_; (case hd => rfl); (case hg => rfl); (case hr => first | (go_simp; done) | (go_simp; rfl)); intro gb263 hg w6 hbox hb; have n0_ := Aside0.mk (below_step (by repeat (first | (with_reducible first | exact HB.out | apply below_alloc | apply pw_below_drewN | apply below_drew1) | exact HB.out)) hb); have n1_ := Aside0.mk (hbox); have n2_ := Aside0.mk ((by rw [hg]; exact (below_size (by repeat (first | (with_reducible first | exact HB.out | apply below_alloc | apply pw_below_drewN | apply below_drew1) | exact HB.out))) : w.heap.size ≤ gb263)); have n3_ := Aside0.mk ((by rw [hg]; exact (below_size (by repeat (first | (with_reducible first | exact HB.out | apply below_alloc | apply pw_below_drewN | apply below_drew1) | exact HB.out))) : w.heap.size ≤ gb263)); clear HB; have HB := n0_; have BK263 := n1_; have GW263 := n2_; have GE263 := n3_; clear n0_ n1_ n2_ n3_; clear hb hbox hg; have hcz7_0 : w6.cell? ⟨gb263, 0, none⟩ = some (.slice A0_0 l0_0.length c0_0) := (blk_cell BK263.out 0).trans rfl; have hfz7_0 := blk_frozen BK263.out 0) | ((with_reducible refine gate_callee (f := 138) rfl ?_); refine goesL_ (some 7) rfl rfl Try.func138 (by kernel_rfl) rfl #[.agg #[.slice A0_0 l0_0.length c0_0], .int .i64 a1] rfl (by (try simp only [List.map_toArray, List.map_cons, List.map_nil]); first | done | rfl | (simp only [List.length_drop, List.length_take]; rfl)) ?_; (with_reducible refine (impl_isSet.calls k _ _ l0_0 a1 true _ ?side1 ?side2 A3.out).mono ?_); (case side1 => repeat (first | exact (Kd.C_below HR0_0.out HB.out) | (with_reducible refine Kd.C_alloc ?_ _) | (with_reducible refine Kd.C_drewN ?_ _) | (with_reducible refine Kd.C_drew ?_))); (case side2 => exact HC0_0.out); rintro e w8 ⟨rfl, hb⟩; refine ⟨_, rfl, ?_⟩; have n0_ := Aside0.mk (blk_below (g := gb263) (o := .cells #[.slice A0_0 l0_0.length c0_0] 28 (0, 0)) (by (with_reducible repeat (first | refine blk_drewN ?_ _ | refine blk_drew ?_ | refine blk_alloc ?_ _)); exact BK263.out) hb); have n1_ := Aside0.mk (below_step (by repeat (first | (with_reducible first | exact HB.out | apply below_alloc | apply pw_below_drewN | apply below_drew1 | refine below_set ?_ GE263.out) | exact HB.out)) hb); clear BK263; clear HB; have BK263 := n0_; have HB := n1_; clear n0_ n1_; (try clear hb); (try clear hb2); (try clear hk); (try clear hi); have hcz9_0 : w8.cell? ⟨gb263, 0, none⟩ = some (.slice A0_0 l0_0.length c0_0) := (blk_cell BK263.out 0).trans rfl; have hfz9_0 := blk_frozen BK263.out 0) | (go_at_call 125; (with_reducible refine (impl_Poset_close.calls k _ _ l0_0 a1 t265 _ ?side1 ?side2 A5.out).mono ?_); (case side1 => repeat (first | exact (Kd.C_below HR0_0.out HB.out) | (with_reducible refine Kd.C_alloc ?_ _) | (with_reducible refine Kd.C_drewN ?_ _) | (with_reducible refine Kd.C_drew ?_))); (case side2 => exact HC0_0.out); rintro e w10 ⟨rfl, hb⟩; have n0_ := Aside0.mk (blk_below (g := gb263) (o := .cells #[.slice A0_0 l0_0.length c0_0] 28 (0, 0)) (by (with_reducible repeat (first | refine blk_drewN ?_ _ | refine blk_drew ?_ | refine blk_alloc ?_ _)); exact BK263.out) hb); have n1_ := Aside0.mk (below_step (by repeat (first | (with_reducible first | exact HB.out | apply below_alloc | apply pw_below_drewN | apply below_drew1 | refine below_set ?_ GE263.out) | exact HB.out)) hb); clear BK263; clear HB; have BK263 := n0_; have HB := n1_; clear n0_ n1_; (try clear hb); (try clear hb2); (try clear hk); (try clear hi)))
    go_ret
    exact ⟨by first | rfl | (simp [errW_none, errW_some] <;> rfl) | (simp [*, errW_none, errW_some] <;> rfl), by repeat (first | (with_reducible first | exact HB.out | apply below_alloc | apply pw_below_drewN | apply below_drew1 | refine below_set ?_ GE263.out) | exact HB.out)⟩
  · replace c4 := Bool.eq_false_iff.mpr c4
    subst c4
    have H1 : (some false) = some r := by rw [if_neg (show ¬ (false = true) by decide)] at H; exact H
    clear H
    have H := H1
    clear H1
    obtain rfl := Option.some.inj H
    go_enter Try.func103, Try.ntmps103
    go_wp2_with (first | ((with_reducible refine gate_dst (N := 2) rfl ?_); refine box_event ?hg (N := 2) ?hd (cs := #[.slice A0_0 l0_0.length c0_0]) (t := 28) ?hr ?_; (case hd => rfl); (case hg => rfl); (case hr => first | (go_simp; done) | (go_simp; rfl)); intro gb263 hg w11 hbox hb; have n0_ := Aside0.mk (below_step (by repeat (first | (with_reducible first | exact HB.out | apply below_alloc | apply pw_below_drewN | apply below_drew1) | exact HB.out)) hb); have n1_ := Aside0.mk (hbox); have n2_ := Aside0.mk ((by rw [hg]; exact (below_size (by repeat (first | (with_reducible first | exact HB.out | apply below_alloc | apply pw_below_drewN | apply below_drew1) | exact HB.out))) : w.heap.size ≤ gb263)); have n3_ := Aside0.mk ((by rw [hg]; exact (below_size (by repeat (first | (with_reducible first | exact HB.out | apply below_alloc | apply pw_below_drewN | apply below_drew1) | exact HB.out))) : w.heap.size ≤ gb263)); clear HB; have HB := n0_; have BK263 := n1_; have GW263 := n2_; have GE263 := n3_; clear n0_ n1_ n2_ n3_; clear hb hbox hg; have hcz12_0 : w11.cell? ⟨gb263, 0, none⟩ = some (.slice A0_0 l0_0.length c0_0) := (blk_cell BK263.out 0).trans rfl; have hfz12_0 := blk_frozen BK263.out 0) | ((with_reducible refine gate_callee (f := 138) rfl ?_); refine goesL_ (some 7) rfl rfl Try.func138 (by kernel_rfl) rfl #[.agg #[.slice A0_0 l0_0.length c0_0], .int .i64 a1] rfl (by (try simp only [List.map_toArray, List.map_cons, List.map_nil]); first | done | rfl | (simp only [List.length_drop, List.length_take]; rfl)) ?_; (with_reducible refine (impl_isSet.calls k _ _ l0_0 a1 false _ ?side1 ?side2 A3.out).mono ?_); (case side1 => repeat (first | exact (Kd.C_below HR0_0.out HB.out) | (with_reducible refine Kd.C_alloc ?_ _) | (with_reducible refine Kd.C_drewN ?_ _) | (with_reducible refine Kd.C_drew ?_))); (case side2 => exact HC0_0.out); rintro e w13 ⟨rfl, hb⟩; refine ⟨_, rfl, ?_⟩; have n0_ := Aside0.mk (blk_below (g := gb263) (o := .cells #[.slice A0_0 l0_0.length c0_0] 28 (0, 0)) (by (with_reducible repeat (first | refine blk_drewN ?_ _ | refine blk_drew ?_ | refine blk_alloc ?_ _)); exact BK263.out) hb); have n1_ := Aside0.mk (below_step (by repeat (first | (with_reducible first | exact HB.out | apply below_alloc | apply pw_below_drewN | apply below_drew1 | refine below_set ?_ GE263.out) | exact HB.out)) hb); clear BK263; clear HB; have BK263 := n0_; have HB := n1_; clear n0_ n1_; (try clear hb); (try clear hb2); (try clear hk); (try clear hi)))
    go_ret
    exact ⟨by first | rfl | (simp [errW_none, errW_some] <;> rfl) | (simp [*, errW_none, errW_some] <;> rfl), by repeat (first | (with_reducible first | exact HB.out | apply below_alloc | apply pw_below_drewN | apply below_drew1 | refine below_set ?_ GE263.out) | exact HB.out)⟩
end Go.Proofs.Ytpdgiinedbdamaa.L
end
section
namespace Go.Proofs.Ytpdgiinedbdamaa.M
open Go.RowKit Go.Proofs.YtpdgiinedbdamaaW.PrintWords Go.Proofs.YtpdgiinedbdamaaW.PrintLast Go.Proofs.YtpdgiinedbdamaaW.PrintMore
theorem wrap_id {x : Int} (h0 : -9223372036854775808 ≤ x) (h1 : x ≤ 9223372036854775807) : wrap64 x = x := by unfold wrap64; omega
theorem wrap_succ {i : Nat} (h : i < 9223372036854775807) : wrap64 ((i : Int) + 1) = ((i + 1 : Nat) : Int) := by unfold wrap64; omega
theorem rd_get {l : List Int} {i : Nat} (h : i < l.length) : rd l (i : Int) = l[i] := by simp [rd, List.getD_eq_getElem?_getD, h]
theorem ev_ite {α : Type} {c : Prop} [Decidable c] {f g : Nat → Option α} {r : α} (h1 : c → Ev f r) (h2 : ¬ c → Ev g r) : Ev (fun k => if c then f k else g k) r := by
  by_cases h : c
  · obtain ⟨K, hK⟩ := h1 h; exact ⟨K, fun k hk => by simp only [if_pos h]; exact hK k hk⟩
  · obtain ⟨K, hK⟩ := h2 h; exact ⟨K, fun k hk => by simp only [if_neg h]; exact hK k hk⟩
theorem ev_pos {α : Type} {c : Prop} [Decidable c] {f g : Nat → Option α} {r : α} (h : c) (h1 : Ev f r) : Ev (fun k => if c then f k else g k) r := ev_ite (fun _ => h1) (fun h2 => absurd h h2)
theorem ev_neg {α : Type} {c : Prop} [Decidable c] {f g : Nat → Option α} {r : α} (h : ¬ c) (h1 : Ev g r) : Ev (fun k => if c then f k else g k) r := ev_ite (fun h2 => absurd h2 h) (fun _ => h1)
theorem ev_call {α β : Type} {x : Option α} {a : α} {f : Nat → α → Option β} {r : β} (h : x = some a) (k : Ev (fun n => f n a) r) : Ev (fun n => x.bind (f n)) r := by subst h; simpa using k
def inB (x lo hi : Int) : Bool := decide (lo ≤ x) && decide (x ≤ hi)
theorem inB_iff {x lo hi : Int} : inB x lo hi = true ↔ lo ≤ x ∧ x ≤ hi := by simp [inB]
end Go.Proofs.Ytpdgiinedbdamaa.M
end
section
namespace Go.Proofs.Ytpdgiinedbdamaa.M
open Go.RowKit Go.Proofs.YtpdgiinedbdamaaW.PrintWords Go.Proofs.YtpdgiinedbdamaaW.PrintLast Go.Proofs.YtpdgiinedbdamaaW.PrintMore
def sd (a b : Nat) : Nat := a ^^^ (a &&& b)
theorem sd_bit (a b i : Nat) : (sd a b).testBit i = (a.testBit i && !b.testBit i) := by
  unfold sd; rw [Nat.testBit_xor, Nat.testBit_and]; cases a.testBit i <;> cases b.testBit i <;> rfl
theorem sd_zero {a b : Nat} : sd a b = 0 ↔ ∀ i, a.testBit i = true → b.testBit i = true := by
  constructor
  · intro h i ha
    have := sd_bit a b i
    rw [h, Nat.zero_testBit, ha] at this
    cases hb : b.testBit i
    · rw [hb] at this; simp at this
    · rfl
  · intro h
    apply Nat.eq_of_testBit_eq
    intro i
    rw [sd_bit, Nat.zero_testBit]
    cases ha : a.testBit i
    · rfl
    · rw [h i ha]; rfl
theorem sd_le (a b : Nat) : sd a b ≤ a := by
  have e : sd a b = sd a b &&& a := by
    apply Nat.eq_of_testBit_eq
    intro i
    rw [Nat.testBit_and, sd_bit]
    cases a.testBit i <;> cases b.testBit i <;> rfl
  rw [e]; exact Nat.and_le_right
theorem sd_lt {a : Nat} (b : Nat) {n : Nat} (h : a < 2 ^ n) : sd a b < 2 ^ n := Nat.lt_of_le_of_lt (sd_le a b) h
theorem wrap_nat {x : Nat} (h : x < 2 ^ 63) : IntKind.i64.wrap (x : Int) = (x : Int) := by
  rw [IntKind.wrap_i64]
  have : (x : Int) < 9223372036854775808 := by
    have h2 : (2 : Nat) ^ 63 = 9223372036854775808 := by decide
    omega
  omega
theorem ofInt_nat {a : Nat} (h : a < 2 ^ 63) : (BitVec.ofInt IntKind.i64.bits (a : Int)).toNat = a := by
  have e : IntKind.i64.bits = 64 := rfl
  rw [e, BitVec.ofInt_natCast, BitVec.toNat_ofNat]
  exact Nat.mod_eq_of_lt (Nat.lt_of_lt_of_le h (by decide))
theorem bits_and {a b : Nat} (ha : a < 2 ^ 63) (hb : b < 2 ^ 63) : Go.bits .and .i64 (a : Int) (b : Int) = ((a &&& b : Nat) : Int) := by
  simp only [Go.bits, BitVec.toNat_and, ofInt_nat ha, ofInt_nat hb]
  exact wrap_nat (Nat.and_lt_two_pow _ hb)
theorem bits_andNot {a b : Nat} (ha : a < 2 ^ 63) (hb : b < 2 ^ 63) : Go.bits .andNot .i64 (a : Int) (b : Int) = ((sd a b : Nat) : Int) := by
  have e : (BitVec.ofInt IntKind.i64.bits (a : Int) &&& ~~~(BitVec.ofInt IntKind.i64.bits (b : Int))).toNat = sd a b := by
    apply Nat.eq_of_testBit_eq
    intro i
    rw [BitVec.toNat_and, Nat.testBit_and, ofInt_nat ha, sd_bit]
    cases hai : a.testBit i
    · rfl
    · have hi : i < 64 := by
        apply Nat.lt_of_not_le; intro h
        have : a < 2 ^ i := Nat.lt_of_lt_of_le ha (Nat.pow_le_pow_right (by decide) (by omega))
        rw [Nat.testBit_lt_two_pow this] at hai; cases hai
      have e2 : (~~~(BitVec.ofInt IntKind.i64.bits (b : Int))).toNat.testBit i = (~~~(BitVec.ofInt IntKind.i64.bits (b : Int))).getLsbD i := rfl
      have e3 : (BitVec.ofInt IntKind.i64.bits (b : Int)).getLsbD i = b.testBit i := by
        show (BitVec.ofInt IntKind.i64.bits (b : Int)).toNat.testBit i = _
        rw [ofInt_nat hb]
      rw [e2, BitVec.getLsbD_not, e3]
      have : decide (i < IntKind.i64.bits) = true := decide_eq_true hi
      rw [this, Bool.true_and]
  simp only [Go.bits]
  rw [e]
  exact wrap_nat (sd_lt b ha)
theorem shl_one {i : Nat} (h : i < 63) : shl .i64 1 (i : Int) = ((2 ^ i : Nat) : Int) := by
  unfold shl
  have e : min (i : Int).toNat IntKind.i64.bits = i := by
    have : IntKind.i64.bits = 64 := rfl
    rw [this, Int.toNat_natCast]; omega
  rw [e, Int.one_mul]
  have : ((2 : Int) ^ i) = ((2 ^ i : Nat) : Int) := by simp
  rw [this]
  exact wrap_nat (Nat.pow_lt_pow_right (by decide) h)
theorem shl_one' {i : Nat} (h : i < 62) : wrap64 (shl .i64 1 (i : Int) - 1) = ((2 ^ i - 1 : Nat) : Int) := by
  rw [shl_one (by omega)]
  have h1 : 0 < 2 ^ i := Nat.two_pow_pos i
  have h2 : 2 ^ i ≤ 2 ^ 62 := Nat.pow_le_pow_right (by decide) (by omega)
  have h3 : (2 : Nat) ^ 62 = 4611686018427387904 := by decide
  rw [wrap_id (by omega) (by omega)]; omega
theorem shr_nat {a i : Nat} (h : i ≤ 64) : shr .i64 (a : Int) (i : Int) = ((a / 2 ^ i : Nat) : Int) := by
  unfold shr
  have e : min (i : Int).toNat IntKind.i64.bits = i := by
    have : IntKind.i64.bits = 64 := rfl
    rw [this, Int.toNat_natCast]; omega
  rw [e]; simp
theorem bit_mod {a i : Nat} (h : i ≤ 64) : (Int.tmod (shr .i64 (a : Int) (i : Int)) 2 == 1) = a.testBit i := by
  rw [shr_nat h]
  have : Int.tmod ((a / 2 ^ i : Nat) : Int) 2 = ((a / 2 ^ i % 2 : Nat) : Int) := by
    rw [show (2 : Int) = ((2 : Nat) : Int) from rfl, Int.ofNat_tmod]
  rw [this, Nat.testBit_eq_decide_div_mod_eq, Bool.eq_iff_iff, beq_iff_eq, decide_eq_true_eq]
  omega
theorem bit_mod' {a i : Nat} (h : i ≤ 64) : (Int.tmod (shr .i64 (a : Int) (i : Int)) 2 = 1) ↔ a.testBit i = true := by
  rw [← bit_mod h]; simp
theorem bit_and {a i : Nat} (ha : a < 2 ^ 63) (h : i ≤ 64) : (Go.bits .and .i64 (shr .i64 (a : Int) (i : Int)) 1 == 1) = a.testBit i := by
  rw [shr_nat h, show (1 : Int) = ((1 : Nat) : Int) from rfl, bits_and (Nat.lt_of_le_of_lt (Nat.div_le_self _ _) ha) (by decide), Nat.and_one_is_mod, Nat.testBit_eq_decide_div_mod_eq, Bool.eq_iff_iff, beq_iff_eq, decide_eq_true_eq]
  omega
theorem bit_lt {a i n : Nat} (h : a < 2 ^ n) (hi : a.testBit i = true) : i < n := by
  apply Nat.lt_of_not_le; intro h2
  rw [Nat.testBit_lt_two_pow (Nat.lt_of_lt_of_le h (Nat.pow_le_pow_right (by decide) h2))] at hi; cases hi
theorem lt63 {a n : Nat} (h : a < 2 ^ n) (hn : n ≤ 63) : a < 2 ^ 63 := Nat.lt_of_lt_of_le h (Nat.pow_le_pow_right (by decide) hn)
end Go.Proofs.Ytpdgiinedbdamaa.M
end
section
namespace Go.Proofs.Ytpdgiinedbdamaa.M
set_option linter.unusedVariables false
open Go.RowKit Go.Proofs.YtpdgiinedbdamaaW.PrintWords Go.Proofs.YtpdgiinedbdamaaW.PrintLast Go.Proofs.YtpdgiinedbdamaaW.PrintMore
def toI (p : List Nat) : List Int := p.map fun (x : Nat) => (x : Int)
@[simp] theorem toI_len (p : List Nat) : (toI p).length = p.length := by simp [toI]
@[simp] theorem toI_nil : toI [] = [] := rfl
theorem toI_app (p q : List Nat) : toI (p ++ q) = toI p ++ toI q := by simp [toI]
theorem toI_one (x : Nat) : toI [x] = [(x : Int)] := rfl
theorem toI_set (p : List Nat) (i x : Nat) : (toI p).set i (x : Int) = toI (p.set i x) := by simp [toI, List.map_set]
theorem rd_toI (p : List Nat) (i : Nat) : rd (toI p) (i : Int) = ((p.getD i 0 : Nat) : Int) := by
  simp only [rd, toI, Int.toNat_natCast, List.getD_eq_getElem?_getD, List.getElem?_map]
  cases p[i]? <;> simp
theorem toI_inj {p q : List Nat} (h : toI p = toI q) : p = q := by
  exact (List.map_inj_right (fun a b h => Int.ofNat.inj h)).mp h
def less (p : List Nat) (i : Nat) : Nat := p.getD i 0
theorem less_out {p : List Nat} {i : Nat} (h : p.length ≤ i) : less p i = 0 := by simp [less, List.getD_eq_getElem?_getD, h]
theorem rd_less (p : List Nat) (i : Nat) : rd (toI p) (i : Int) = ((less p i : Nat) : Int) := rd_toI p i
structure Good (p : List Nat) : Prop where
  pos : 1 ≤ p.length
  le : p.length ≤ 10
  lt : ∀ i, i < p.length → less p i < 2 ^ i
  tr : ∀ i, i < p.length → ∀ j, (less p i).testBit j = true → ∀ m, (less p j).testBit m = true → (less p i).testBit m = true
theorem Good.bit {p : List Nat} (g : Good p) {i j : Nat} (h : (less p i).testBit j = true) : j < i ∧ i < p.length := by
  have hi : i < p.length := by
    apply Nat.lt_of_not_le; intro h2; rw [less_out h2, Nat.zero_testBit] at h; cases h
  exact ⟨bit_lt (g.lt i hi) h, hi⟩
theorem Good.lt10 {p : List Nat} (g : Good p) (i : Nat) : less p i < 2 ^ p.length := by
  by_cases hi : i < p.length
  · exact Nat.lt_of_lt_of_le (g.lt i hi) (Nat.pow_le_pow_right (by decide) (by omega))
  · rw [less_out (by omega)]; exact Nat.two_pow_pos _
theorem Good.lt63 {p : List Nat} (g : Good p) (i : Nat) : less p i < 2 ^ 63 := M.lt63 (g.lt10 i) (by have := g.le; omega)
def okAt (l : List Int) (i : Nat) : Bool := inB (l.getD i 0) 0 ((2 ^ i - 1 : Nat) : Int) && (List.range i).all fun j => !((l.getD i 0).toNat.testBit j) || sd (l.getD j 0).toNat (l.getD i 0).toNat == 0
theorem okAt_def (l : List Int) (i : Nat) : okAt l i = (inB (l.getD i 0) 0 ((2 ^ i - 1 : Nat) : Int) && (List.range i).all fun j => !((l.getD i 0).toNat.testBit j) || sd (l.getD j 0).toNat (l.getD i 0).toNat == 0) := rfl
def goodB (l : List Int) : Bool := inB (l.length : Int) 1 10 && (List.range' 0 l.length).all (okAt l)
theorem okAt_nat {l : List Int} {i : Nat} (h : okAt l i = true) : ∃ a : Nat, l.getD i 0 = (a : Int) ∧ a < 2 ^ i := by
  simp only [okAt, Bool.and_eq_true, inB_iff] at h
  have := Nat.two_pow_pos i
  exact ⟨(l.getD i 0).toNat, by omega, by omega⟩
theorem goodB_of {l : List Int} (h : goodB l = true) : ∃ p, l = toI p ∧ Good p := by
  simp only [goodB, Bool.and_eq_true, inB_iff, List.all_eq_true, List.mem_range'_1] at h
  obtain ⟨⟨h1, h2⟩, h3⟩ := h
  have hn : ∀ i, i < l.length → okAt l i = true := fun i hi => h3 i (by omega)
  have e : l = toI (l.map Int.toNat) := by
    apply List.ext_getElem (by simp)
    intro i hi1 hi2
    obtain ⟨a, ha, _⟩ := okAt_nat (hn i hi1)
    have hg : l.getD i 0 = l[i] := by simp [List.getD_eq_getElem?_getD, hi1]
    simp only [toI, List.getElem_map]; omega
  refine ⟨l.map Int.toNat, e, ?_⟩
  have hl : ∀ i, less (l.map Int.toNat) i = (l.getD i 0).toNat := by
    intro i
    simp only [less, List.getD_eq_getElem?_getD, List.getElem?_map]
    cases l[i]? <;> simp
  refine ⟨by simp; omega, by simp; omega, fun i hi => ?_, fun i hi j hj m hm => ?_⟩
  · obtain ⟨a, ha, hb⟩ := okAt_nat (hn i (by simpa using hi))
    rw [hl, ha]; simpa using hb
  · have hi' : i < l.length := by simpa using hi
    have ho := hn i hi'
    obtain ⟨a, ha, hb⟩ := okAt_nat ho
    simp only [okAt, Bool.and_eq_true, List.all_eq_true, List.mem_range, Bool.or_eq_true, Bool.not_eq_true', beq_iff_eq] at ho
    rw [hl] at hj hm ⊢
    have hji : j < i := by rw [ha] at hj; exact bit_lt hb (by simpa using hj)
    rcases ho.2 j hji with hz | hz
    · rw [hj] at hz; cases hz
    · exact sd_zero.mp hz m hm
def items (m : Nat) : List Nat := (List.range 10).filter fun e => m.testBit e
theorem mem_items {m e : Nat} : e ∈ items m ↔ e < 10 ∧ m.testBit e = true := by simp [items]
theorem items_len (m : Nat) : (items m).length ≤ 10 := by
  have := List.length_filter_le (fun e => m.testBit e) (List.range 10)
  simpa [items] using this
def foldBits {α : Type} (n s : Nat) (f : α → Nat → α) (a : α) : α := (List.range n).foldl (fun a e => if s.testBit e = true then f a e else a) a
theorem foldl_items {α : Type} (s : Nat) (f : α → Nat → α) (a : α) : (items s).foldl f a = foldBits 10 s f a := by
  unfold items foldBits; rw [List.foldl_filter]
theorem foldl_none {α : Type} (s : Nat) (f : α → Nat → α) : ∀ (l : List Nat) (a : α), (∀ e ∈ l, s.testBit e = false) → l.foldl (fun a e => if s.testBit e = true then f a e else a) a = a
  | [], _, _ => rfl
  | x :: l, a, h => by
    rw [List.foldl_cons, if_neg (by rw [h x List.mem_cons_self]; simp)]
    exact foldl_none s f l a fun e he => h e (List.mem_cons_of_mem _ he)
theorem foldBits_le {α : Type} {n m s : Nat} (f : α → Nat → α) (a : α) (h : s < 2 ^ n) (hm : n ≤ m) : foldBits m s f a = foldBits n s f a := by
  unfold foldBits
  obtain ⟨d, rfl⟩ := Nat.exists_eq_add_of_le hm
  rw [List.range_add, List.foldl_append]
  apply foldl_none
  intro e he
  simp only [List.mem_map, List.mem_range] at he
  obtain ⟨x, _, rfl⟩ := he
  exact Nat.testBit_lt_two_pow (Nat.lt_of_lt_of_le h (Nat.pow_le_pow_right (by decide) (by omega)))
theorem foldl_items_n {α : Type} {n s : Nat} (f : α → Nat → α) (a : α) (h : s < 2 ^ n) (hn : n ≤ 10) : (items s).foldl f a = foldBits n s f a := by
  rw [foldl_items, foldBits_le f a h hn]
theorem foldBits_succ {α : Type} (n s : Nat) (f : α → Nat → α) (a : α) : foldBits (n + 1) s f a = if s.testBit n = true then f (foldBits n s f a) n else foldBits n s f a := by
  unfold foldBits; rw [List.range_succ, List.foldl_append]; rfl
end Go.Proofs.Ytpdgiinedbdamaa.M
end
section
namespace Go.Proofs.Ytpdgiinedbdamaa.M
open Go.RowKit Go.Proofs.YtpdgiinedbdamaaW.PrintWords Go.Proofs.YtpdgiinedbdamaaW.PrintLast Go.Proofs.YtpdgiinedbdamaaW.PrintMore Go.Proofs.Ytpdgiinedbdamaa.L
theorem toIntS_l0 (l : List Int) (hl : l.length ≤ 35184372088832) : ∀ (d i : Nat) (acc : List Int), i + d = l.length → acc.length = l.length → Ev (fun k => laws_toIntS.l0 k l acc i) (acc.take i ++ l.drop i)
  | 0, i, acc, h, ha => by
    have h1 : ¬ ((i : Int) < (l.length : Int)) := by omega
    refine Ev.step (fun _ => rfl) (ev_neg h1 ?_)
    rw [List.take_of_length_le (by omega), List.drop_of_length_le (by omega), List.append_nil]
    exact Ev.now _
  | d + 1, i, acc, h, ha => by
    have h1 : (i : Int) < (l.length : Int) := by omega
    refine Ev.step (fun _ => rfl) (ev_pos h1 (ev_pos (by omega) (ev_pos (by omega) ?_)))
    rw [wrap_succ (by omega), rd_get (by omega : i < l.length), Int.toNat_natCast]
    have ih := toIntS_l0 l hl d (i + 1) (acc.set i l[i]) (by omega) (by simp [ha])
    have e : (acc.set i l[i]).take (i + 1) ++ l.drop (i + 1) = acc.take i ++ l.drop i := by
      rw [List.take_succ_eq_append_getElem (by simp; omega), List.getElem_set_self, List.drop_eq_getElem_cons (by omega : i < l.length)]
      simp [List.take_set_of_le]
    rw [← e]; exact ih
theorem toIntS_ev (l : List Int) (hl : l.length ≤ 35184372088832) : Ev (fun k => laws_toIntS.f k l) l := by
  have h := toIntS_l0 l hl l.length 0 (List.replicate l.length 0) (by omega) (by simp)
  exact ev_pos (by omega) (ev_pos (by simpa using hl) (by simpa using h))
theorem eqIntS_l0 (a b : List Int) (hl : a.length ≤ 9223372036854775806) (hab : a.length = b.length) : ∀ (d i : Nat), i + d = a.length → Ev (fun k => laws_eqIntS.l0 k a b i) (decide (a.drop i = b.drop i))
  | 0, i, h => by
    have h1 : ¬ ((i : Int) < (a.length : Int)) := by omega
    refine Ev.step (fun _ => rfl) (ev_neg h1 ?_)
    rw [List.drop_of_length_le (by omega), List.drop_of_length_le (by omega)]
    exact Ev.now _
  | d + 1, i, h => by
    have h1 : (i : Int) < (a.length : Int) := by omega
    refine Ev.step (fun _ => rfl) (ev_pos h1 (ev_pos (by omega) (ev_pos (by omega) ?_)))
    rw [wrap_succ (by omega), rd_get (by omega : i < a.length), rd_get (by omega : i < b.length)]
    rw [List.drop_eq_getElem_cons (by omega : i < a.length), List.drop_eq_getElem_cons (by omega : i < b.length)]
    refine ev_ite (fun e => ?_) (fun e => ?_)
    · rw [decide_eq_decide.mpr (show (a[i] :: a.drop (i + 1) = b[i] :: b.drop (i + 1)) ↔ a.drop (i + 1) = b.drop (i + 1) by rw [List.cons.injEq]; exact ⟨fun z => z.2, fun z => ⟨e, z⟩⟩)]
      exact eqIntS_l0 a b hl hab d (i + 1) (by omega)
    · rw [decide_eq_false (show ¬ (a[i] :: a.drop (i + 1) = b[i] :: b.drop (i + 1)) by rw [List.cons.injEq]; exact fun z => e z.1)]
      exact Ev.now false
theorem eqIntS_ev (a b : List Int) (hl : a.length ≤ 9223372036854775806) : Ev (fun k => laws_eqIntS.f k a b) (decide (a = b)) := by
  refine ev_ite (fun e => ?_) (fun e => ?_)
  · simpa using eqIntS_l0 a b hl (by omega) a.length 0 (by omega)
  · have : ¬ a = b := fun z => e (by rw [z])
    simpa [this] using Ev.now false
def marks (q : Nat) (n : Nat) : List Int := (List.range' q n).map Int.ofNat
theorem marks_len (q n : Nat) : (marks q n).length = n := by simp [marks]
theorem marks_get (q n i : Nat) (h : i < (marks q n).length) : (marks q n)[i] = ((q + i : Nat) : Int) := by simp [marks]
theorem markIntS_l0 (n : Nat) (hn : n ≤ 4611686018427387903) (q : Nat) (hq : q ≤ 4611686018427387903) : ∀ (d i : Nat) (acc : List Int), i + d = n → acc.length = n → (∀ j (hj : j < acc.length), j < i → acc[j] = ((q + j : Nat) : Int)) →
    Ev (fun k => laws_markIntS.l0 k acc ((q + i : Nat) : Int) i) (((q + n : Nat) : Int), marks q n)
  | 0, i, acc, h, ha, hm => by
    have h1 : ¬ ((i : Int) < (acc.length : Int)) := by omega
    refine Ev.step (fun _ => rfl) (ev_neg h1 ?_)
    have e : acc = marks q n := List.ext_getElem (by rw [ha, marks_len]) (fun j h1 h2 => by rw [hm j h1 (by omega), marks_get])
    have e2 : i = n := by omega
    rw [e, e2]; exact Ev.now _
  | d + 1, i, acc, h, ha, hm => by
    have h1 : (i : Int) < (acc.length : Int) := by omega
    refine Ev.step (fun _ => rfl) (ev_pos h1 (ev_pos (by omega) ?_))
    rw [wrap_succ (by omega), wrap_succ (by omega), Int.toNat_natCast]
    refine markIntS_l0 n hn q hq d (i + 1) (acc.set i ((q + i : Nat) : Int)) (by omega) (by simp [ha]) (fun j hj hji => ?_)
    by_cases e : j = i
    · subst e; simp
    · rw [List.getElem_set_ne (by omega)]; exact hm j _ (by omega)
theorem markIntS_ev (l : List Int) (q : Nat) (hl : l.length ≤ 4611686018427387903) (hq : q ≤ 4611686018427387903) : Ev (fun k => laws_markIntS.f k l (q : Int)) (((q + l.length : Nat) : Int), marks q l.length) :=
  markIntS_l0 l.length hl q hq l.length 0 l (by omega) rfl (fun j _ h => by omega)
theorem heldIntS_l0 (q n : Nat) (hn : n ≤ 4611686018427387903) (hq : q ≤ 4611686018427387903) : ∀ (d i : Nat), i + d = n → Ev (fun k => laws_heldIntS.l0 k (marks q n) ((q + i : Nat) : Int) i) ((q + n : Nat) : Int)
  | 0, i, h => by
    have hm := marks_len q n
    have h1 : ¬ ((i : Int) < ((marks q n).length : Int)) := by omega
    refine Ev.step (fun _ => rfl) (ev_neg h1 ?_)
    have e2 : i = n := by omega
    rw [e2]; exact Ev.now _
  | d + 1, i, h => by
    have hm := marks_len q n
    have h1 : (i : Int) < ((marks q n).length : Int) := by omega
    refine Ev.step (fun _ => rfl) (ev_pos h1 (ev_pos (by omega) (ev_pos ?_ ?_)))
    · rw [rd_get (by omega), marks_get]
    · rw [wrap_succ (by omega), wrap_succ (by omega)]
      exact heldIntS_l0 q n hn hq d (i + 1) (by omega)
theorem heldIntS_ev (q n : Nat) (hn : n ≤ 4611686018427387903) (hq : q ≤ 4611686018427387903) : Ev (fun k => laws_heldIntS.f k (marks q n) (q : Int)) ((q + n : Nat) : Int) :=
  heldIntS_l0 q n hn hq n 0 (by omega)
end Go.Proofs.Ytpdgiinedbdamaa.M
end
section
namespace Go.Proofs.Ytpdgiinedbdamaa.M
open Go.RowKit Go.Proofs.YtpdgiinedbdamaaW.PrintWords Go.Proofs.YtpdgiinedbdamaaW.PrintLast Go.Proofs.YtpdgiinedbdamaaW.PrintMore Go.Proofs.Ytpdgiinedbdamaa.L
theorem l1In_eq (x lo hi : Int) : spec_l1In.f x lo hi = some (inB x lo hi) := by
  unfold spec_l1In.f inB
  by_cases h : lo ≤ x <;> simp [h]
theorem within_eq (x lo hi : Int) : impl_within.f x lo hi = some (inB x lo hi) := by
  unfold impl_within.f inB
  by_cases h : lo ≤ x <;> simp [h]
theorem l1All_l0 (l : List Int) (lo hi : Int) (hl : l.length ≤ 9223372036854775806) : ∀ (d i : Nat), i + d = l.length → Ev (fun k => spec_l1All.l0 k lo hi l (l.length : Int) i) ((l.drop i).all (inB · lo hi))
  | 0, i, h => by
    refine Ev.step (fun _ => rfl) (ev_neg (by omega) ?_)
    rw [List.drop_of_length_le (by omega)]; exact Ev.now _
  | d + 1, i, h => by
    refine Ev.step (fun _ => rfl) (ev_pos (by omega) (ev_pos (by omega) (ev_pos (by omega) (ev_call (l1In_eq _ _ _) ?_))))
    rw [rd_get (by omega : i < l.length), wrap_succ (by omega), List.drop_eq_getElem_cons (by omega : i < l.length), List.all_cons]
    refine ev_ite (fun e => ?_) (fun e => ?_)
    · rw [e, Bool.true_and]; exact l1All_l0 l lo hi hl d (i + 1) (by omega)
    · rw [Bool.eq_false_iff.mpr e, Bool.false_and]; exact Ev.now _
theorem l1All_ev (l : List Int) (lo hi : Int) (hl : l.length ≤ 9223372036854775806) : Ev (fun k => spec_l1All.f k l lo hi) (l.all (inB · lo hi)) := l1All_l0 l lo hi hl l.length 0 (by omega)
end Go.Proofs.Ytpdgiinedbdamaa.M
end
section
namespace Go.Proofs.Ytpdgiinedbdamaa.M
open Go.RowKit Go.Proofs.YtpdgiinedbdamaaW.PrintWords Go.Proofs.YtpdgiinedbdamaaW.PrintLast Go.Proofs.YtpdgiinedbdamaaW.PrintMore Go.Proofs.Ytpdgiinedbdamaa.L
set_option linter.unusedVariables false
theorem has_eq {s e : Nat} (hs : s < 2 ^ 63) (he : e ≤ 64) : impl_has.f (s : Int) (e : Int) = some (s.testBit e) := by
  unfold impl_has.f; rw [if_pos (by omega), bit_and hs he]
theorem poIn_eq {s e : Nat} (he : e ≤ 64) : spec_poIn.f (s : Int) (e : Int) = some (s.testBit e) := by
  unfold spec_poIn.f; rw [if_pos (by omega), bit_mod he]
theorem items_l0 (s : Nat) (hs : s < 2 ^ 63) : ∀ (d i : Nat) (acc : List Nat), i + d = 10 → acc.length ≤ i → Ev (fun k => impl_items.l0 k (s : Int) (toI acc) (i : Int)) (toI (acc ++ (List.range' i d).filter fun e => s.testBit e))
  | 0, i, acc, h, ha => by
    refine Ev.step (fun _ => impl_items.l0.eq_2 ..) (ev_neg (by omega) ?_)
    simpa using Ev.now _
  | d + 1, i, acc, h, ha => by
    refine Ev.step (fun _ => impl_items.l0.eq_2 ..) (ev_pos (by omega) (ev_call (has_eq hs (by omega)) ?_))
    rw [wrap_succ (by omega), List.range'_succ]
    refine ev_ite (fun e => ev_pos (by rw [toI_len]; omega) ?_) (fun e => ?_)
    · rw [← toI_one, ← toI_app, List.filter_cons_of_pos e]
      have := items_l0 s hs d (i + 1) (acc ++ [i]) (by omega) (by simp; omega)
      simpa using this
    · rw [List.filter_cons_of_neg e]
      exact items_l0 s hs d (i + 1) acc (by omega) (by omega)
theorem items_ev {s : Nat} (hs : s < 2 ^ 63) : Ev (fun k => impl_items.f k (s : Int)) (toI (items s)) := by
  have h := items_l0 s hs 10 0 [] (by omega) (by simp)
  rw [List.nil_append, ← List.range_eq_range'] at h
  exact h
theorem n_eq (l : List Int) : impl_Poset_n.f l = some (l.length : Int) := rfl
theorem items_all {m i : Nat} (hm : m < 2 ^ i) (hi : i ≤ 10) (g : Nat → Bool) : (items m).all g = (List.range i).all fun j => !(m.testBit j) || g j := by
  rw [Bool.eq_iff_iff]
  simp only [List.all_eq_true, mem_items, List.mem_range, Bool.or_eq_true, Bool.not_eq_true']
  constructor
  · intro h j hj
    cases hb : m.testBit j
    · exact .inl rfl
    · exact .inr (h j ⟨by omega, hb⟩)
  · rintro h j ⟨_, hb⟩
    rcases h j (bit_lt hm hb) with h2 | h2
    · rw [hb] at h2; cases h2
    · exact h2
theorem pow_small {i : Nat} (h : i ≤ 10) : 2 ^ i ≤ 1024 := by
  have := Nat.pow_le_pow_right (n := 2) (by decide) h
  simpa using this
theorem rd_getD (l : List Int) (i : Nat) : rd l (i : Int) = l.getD i 0 := by simp [rd]
theorem isPoset_l1 (l : List Int) (i m : Nat) (R : Bool) (hl : l.length ≤ 10) (hi : i < l.length) (hm : m < 2 ^ i) (ok : ∀ j, j < i → ∃ a : Nat, l.getD j 0 = (a : Int) ∧ a < 2 ^ j)
    (hR : Ev (fun k => impl_IsPoset.l0 k l (l.length : Int) ((i + 1 : Nat) : Int) l) R) : ∀ (d q : Nat), q + d = (items m).length →
    Ev (fun k => impl_IsPoset.l1 k (m : Int) l (l.length : Int) (i : Int) (toI (items m)) ((toI (items m)).length : Int) (q : Int) l) (((items m).drop q).all (fun j => sd (l.getD j 0).toNat m == 0) && R)
  | 0, q, h => by
    refine Ev.step (fun _ => impl_IsPoset.l1.eq_2 ..) (ev_neg (by rw [toI_len]; omega) ?_)
    rw [List.drop_of_length_le (by omega), List.all_nil, Bool.true_and, wrap_succ (by omega)]
    exact hR
  | d + 1, q, h => by
    have hq : q < (items m).length := by omega
    have hj : (items m)[q] ∈ items m := List.getElem_mem hq
    obtain ⟨_, hb⟩ := mem_items.mp hj
    have hji := bit_lt hm hb
    obtain ⟨a, ha, ha2⟩ := ok _ hji
    have e1 : rd (toI (items m)) (q : Int) = (((items m)[q] : Nat) : Int) := by rw [rd_toI]; simp [List.getD_eq_getElem?_getD, hq]
    have hlen := items_len m
    have hp1 := pow_small (show i ≤ 10 by omega)
    have hp2 := pow_small (show (items m)[q] ≤ 10 by omega)
    refine Ev.step (fun _ => impl_IsPoset.l1.eq_2 ..) ?_
    rw [e1]
    refine ev_pos (by rw [toI_len]; omega) (ev_pos (by omega) (ev_pos (by rw [toI_len]; omega) (ev_pos (by omega) (ev_pos (by omega) ?_))))
    rw [rd_getD, ha, bits_andNot (lt63 ha2 (by omega)) (lt63 hm (by omega)), wrap_succ (by omega), List.drop_eq_getElem_cons hq, List.all_cons, ha, Int.toNat_natCast]
    refine ev_ite (fun e => ?_) (fun e => ?_)
    · have e' : sd a m = 0 := by omega
      rw [e', beq_self_eq_true, Bool.true_and]
      exact isPoset_l1 l i m R hl hi hm ok hR d (q + 1) (by omega)
    · have e' : (sd a m == 0) = false := by rw [beq_eq_false_iff_ne]; omega
      rw [e', Bool.false_and, Bool.false_and]
      exact Ev.now _
theorem isPoset_l0 (l : List Int) (hl : l.length ≤ 10) : ∀ (d i : Nat), i + d = l.length → (∀ j, j < i → ∃ a : Nat, l.getD j 0 = (a : Int) ∧ a < 2 ^ j) →
    Ev (fun k => impl_IsPoset.l0 k l (l.length : Int) (i : Int) l) ((List.range' i d).all (okAt l))
  | 0, i, h, ok => by
    refine Ev.step (fun _ => impl_IsPoset.l0.eq_2 ..) (ev_neg (by omega) ?_)
    exact Ev.now _
  | d + 1, i, h, ok => by
    have hp1 := pow_small (show i ≤ 10 by omega)
    have hpos := Nat.two_pow_pos i
    refine Ev.step (fun _ => impl_IsPoset.l0.eq_2 ..) (ev_pos (by omega) (ev_pos (by omega) (ev_pos (by omega) (ev_call (within_eq _ _ _) ?_))))
    rw [rd_getD, shl_one' (by omega), List.range'_succ, List.all_cons, okAt_def l i]
    refine ev_ite (fun e => ?_) (fun e => ?_)
    · have b := inB_iff.mp e
      obtain ⟨m, hm⟩ : ∃ m : Nat, l.getD i 0 = (m : Int) := ⟨(l.getD i 0).toNat, by omega⟩
      rw [e, Bool.true_and, hm]
      have hm2 : m < 2 ^ i := by omega
      refine Ev.bind (items_ev (lt63 hm2 (by omega))) ?_
      have hnx := isPoset_l0 l hl d (i + 1) (by omega) (fun j hj => by
        by_cases hji : j = i
        · subst hji; exact ⟨m, hm, hm2⟩
        · exact ok j (by omega))
      have := isPoset_l1 l i m _ hl (by omega) hm2 ok hnx (items m).length 0 (by omega)
      rw [List.drop_zero, items_all hm2 (by omega)] at this
      simpa using this
    · rw [Bool.eq_false_iff.mpr e, Bool.false_and, Bool.false_and]
      exact Ev.now _
theorem isPoset_ev (l : List Int) : Ev (fun k => impl_IsPoset.f k l) (goodB l) := by
  refine ev_call (n_eq l) (ev_call (within_eq _ _ _) ?_)
  unfold goodB
  refine ev_ite (fun e => ?_) (fun e => ?_)
  · have b := inB_iff.mp e
    rw [e, Bool.true_and]
    exact isPoset_l0 l (by omega) l.length 0 (by omega) (fun j hj => by omega)
  · rw [Bool.eq_false_iff.mpr e, Bool.false_and]; exact Ev.now _
theorem poGood_l1 (l : List Int) (i m : Nat) (R : Bool) (hl : l.length ≤ 10) (hi : i < l.length) (hm : m < 2 ^ i) (ok : ∀ j, j < i → ∃ a : Nat, l.getD j 0 = (a : Int) ∧ a < 2 ^ j)
    (hR : Ev (fun k => spec_poGood.l0 k l (l.length : Int) ((i + 1 : Nat) : Int) l) R) : ∀ (d j : Nat), j + d = i →
    Ev (fun k => spec_poGood.l1 k (i : Int) (m : Int) (j : Int) l (l.length : Int) (i : Int) l) ((List.range' j d).all (fun j => !(m.testBit j) || sd (l.getD j 0).toNat m == 0) && R)
  | 0, j, h => by
    refine Ev.step (fun _ => spec_poGood.l1.eq_2 ..) (ev_neg (by omega) ?_)
    rw [wrap_succ (by omega)]
    simpa using hR
  | d + 1, j, h => by
    obtain ⟨a, ha, ha2⟩ := ok j (by omega)
    have hp1 := pow_small (show i ≤ 10 by omega)
    have hp2 := pow_small (show j ≤ 10 by omega)
    have ih := poGood_l1 l i m R hl hi hm ok hR d (j + 1) (by omega)
    refine Ev.step (fun _ => spec_poGood.l1.eq_2 ..) (ev_pos (by omega) (ev_pos (by omega) ?_))
    rw [wrap_succ (by omega), List.range'_succ, List.all_cons, rd_getD, ha, bits_andNot (lt63 ha2 (by omega)) (lt63 hm (by omega)), Int.toNat_natCast]
    refine ev_ite (fun e => ?_) (fun e => ?_)
    · rw [bit_mod' (by omega)] at e
      rw [e, Bool.not_true, Bool.false_or]
      refine ev_pos (by omega) (ev_ite (fun e => ?_) (fun e => ?_))
      · have e' : sd a m = 0 := by omega
        rw [e', beq_self_eq_true, Bool.true_and]; exact ih
      · have e' : (sd a m == 0) = false := by rw [beq_eq_false_iff_ne]; omega
        rw [e', Bool.false_and, Bool.false_and]; exact Ev.now _
    · rw [bit_mod' (by omega)] at e
      rw [Bool.eq_false_iff.mpr e, Bool.not_false, Bool.true_or, Bool.true_and]; exact ih
theorem poGood_l0 (l : List Int) (hl : l.length ≤ 10) : ∀ (d i : Nat), i + d = l.length → (∀ j, j < i → ∃ a : Nat, l.getD j 0 = (a : Int) ∧ a < 2 ^ j) →
    Ev (fun k => spec_poGood.l0 k l (l.length : Int) (i : Int) l) ((List.range' i d).all (okAt l))
  | 0, i, h, ok => by
    refine Ev.step (fun _ => spec_poGood.l0.eq_2 ..) (ev_neg (by omega) ?_)
    exact Ev.now _
  | d + 1, i, h, ok => by
    have hp1 := pow_small (show i ≤ 10 by omega)
    have hpos := Nat.two_pow_pos i
    refine Ev.step (fun _ => spec_poGood.l0.eq_2 ..) (ev_pos (by omega) (ev_pos (by omega) (ev_pos (by omega) (ev_call (l1In_eq _ _ _) ?_))))
    rw [rd_getD, shl_one' (by omega), List.range'_succ, List.all_cons, okAt_def l i]
    refine ev_ite (fun e => ?_) (fun e => ?_)
    · have b := inB_iff.mp e
      obtain ⟨m, hm⟩ : ∃ m : Nat, l.getD i 0 = (m : Int) := ⟨(l.getD i 0).toNat, by omega⟩
      rw [e, Bool.true_and, hm]
      have hm2 : m < 2 ^ i := by omega
      have hnx := poGood_l0 l hl d (i + 1) (by omega) (fun j hj => by
        by_cases hji : j = i
        · subst hji; exact ⟨m, hm, hm2⟩
        · exact ok j (by omega))
      have := poGood_l1 l i m _ hl (by omega) hm2 ok hnx i 0 (by omega)
      simpa [List.range_eq_range'] using this
    · rw [Bool.eq_false_iff.mpr e, Bool.false_and, Bool.false_and]
      exact Ev.now _
theorem poGood_ev (l : List Int) : Ev (fun k => spec_poGood.f k l) (goodB l) := by
  refine ev_call (l1In_eq _ _ _) ?_
  unfold goodB
  refine ev_ite (fun e => ?_) (fun e => ?_)
  · have b := inB_iff.mp e
    rw [e, Bool.true_and]
    exact poGood_l0 l (by omega) l.length 0 (by omega) (fun j hj => by omega)
  · rw [Bool.eq_false_iff.mpr e, Bool.false_and]; exact Ev.now _
end Go.Proofs.Ytpdgiinedbdamaa.M
end
section
namespace Go.Proofs.Ytpdgiinedbdamaa.M
open Go.RowKit Go.Proofs.YtpdgiinedbdamaaW.PrintWords Go.Proofs.YtpdgiinedbdamaaW.PrintLast Go.Proofs.YtpdgiinedbdamaaW.PrintMore Go.Proofs.Ytpdgiinedbdamaa.L
set_option linter.unusedVariables false
theorem toNat_toI (p : List Nat) : (toI p).map Int.toNat = p := by
  simp only [toI, List.map_map]
  exact (List.map_congr_left (fun x _ => by simp)).trans (List.map_id p)
theorem items_get {m q : Nat} (hq : q < (items m).length) : (items m)[q] < 10 ∧ m.testBit (items m)[q] = true := mem_items.mp (List.getElem_mem hq)
theorem rd_items {m q : Nat} (hq : q < (items m).length) : rd (toI (items m)) (q : Int) = (((items m)[q] : Nat) : Int) := by rw [rd_toI]; simp [List.getD_eq_getElem?_getD, hq]
end Go.Proofs.Ytpdgiinedbdamaa.M
end
