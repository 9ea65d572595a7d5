/- Laws about the given program: the law FnExactAllArrays answers true for every input that its row lets in; no condition is added to the given statement. Contracts of the Go functions that it reaches, and the plain proof over lists. -/
import Derived.Below
import Derived.ChangeOld
import Derived.Laws.BitsLemmas
import Derived.Lib.SmallJoins
import Derived.OpenShut
import Derived.ProofKit
import Derived.ShutString
import Derived.SizedLaws
import Derived.Test.YtldbabadbggleaaRows
import Derived.WalkKit
import Derived.Test.YtldbabadbggleaaWFnExactAllArrays0
import Derived.Test.YtldbabadbggleaaKFnExactAllArrays0
import Derived.Test.YtldbabadbggleaaKFnExactAllArrays1
import Derived.Test.YtldbabadbggleaaKFnExactAllArrays2
section
namespace Go.Proofs.Ytldbabadbggleaa.L
open Go.RowKit Go.Proofs.YtldbabadbggleaaW.PrintWords Go.Proofs.YtldbabadbggleaaW.PrintLast Go.Proofs.YtldbabadbggleaaW.PrintMore
attribute [local go_sem] max2_int min2_int max_two min_two max_three min_three max_four min_four
set_option linter.unusedVariables false
set_option linter.unusedSimpArgs false
def laws_heldIntSS.l0 : Nat → List (List Int) → Int → Int → Option (Int)
  | 0, _, _, _ => none
  | k + 1, x0, x1, x5 => if x5 < (x0.length : Int) then (if 0 ≤ x5 then ((laws_heldIntS.f k (rd_L1 x0 x5) x1).bind fun t196 => (if t196 < 0 then (some (-1)) else (laws_heldIntSS.l0 k x0 t196 (wrap64 (x5 + 1))))) else (none)) else (some x1)
def laws_heldIntSS.f (k : Nat) (l0 : List (List Int)) (a1 : Int) : Option (Int) := laws_heldIntSS.l0 k l0 a1 0
theorem laws_heldIntSS.mono_l : ∀ k, (∀ y0 y1 y2, LeO (laws_heldIntSS.l0 k y0 y1 y2) (laws_heldIntSS.l0 (k + 1) y0 y1 y2))
  | 0 => fun _ _ _ r h => by simp [laws_heldIntSS.l0] at h
  | k + 1 => by
    have ih0 := laws_heldIntSS.mono_l k
    · intro y0 y1 y2
      unfold laws_heldIntSS.l0
      repeat' first
      | (with_reducible exact ih0 _ _ _)
      | (with_reducible exact laws_heldIntS.mono _ _ _)
      | (with_reducible exact LeO.refl _)
      | (with_reducible exact LeO.none _)
      | (with_reducible refine LeO.ite ?_ ?_)
      | (with_reducible refine LeO.bind ?_ (fun _ => ?_))
      | exact ih0 _ _ _
      | exact laws_heldIntS.mono _ _ _
      | exact LeO.none _
      | refine LeO.ite ?_ ?_
      | refine LeO.bind ?_ (fun _ => ?_)
theorem laws_heldIntSS.mono : ∀ a0 a1 k, LeO (laws_heldIntSS.f k a0 a1) (laws_heldIntSS.f (k + 1) a0 a1) := by
  intro a0 a1 k
  have ih0 := laws_heldIntSS.mono_l k
  unfold laws_heldIntSS.f
  repeat' first
      | (with_reducible exact ih0 _ _ _)
      | (with_reducible exact laws_heldIntS.mono _ _ _)
      | (with_reducible exact LeO.refl _)
      | (with_reducible exact LeO.none _)
      | (with_reducible refine LeO.ite ?_ ?_)
      | (with_reducible refine LeO.bind ?_ (fun _ => ?_))
      | exact ih0 _ _ _
      | exact laws_heldIntS.mono _ _ _
      | exact LeO.none _
      | refine LeO.ite ?_ ?_
      | refine LeO.bind ?_ (fun _ => ?_)
set_option maxHeartbeats 8000000 in
set_option maxRecDepth 100000 in
theorem laws_heldIntSS.calls (k : Nat) (A0 : Option Addr) (c0 : Nat) (l0 : List (List Int)) (a1 : Int) (r : Int) (w : World) (hr0 : Kd.C (Kd.slice 3 (Kd.int .i64)) w A0 l0.length l0) (hc0 : l0.length ≤ c0) (h : laws_heldIntSS.f k l0 a1 = some r) :
    Calls Try.prog 15 #[.slice A0 l0.length c0, .int .i64 a1] w fun e w' => e = .returned (.int .i64 r) ∧ Drawn0 w w' := by
  have HR0 := Aside0.mk hr0
  have HC0 := Aside0.mk hc0
  clear hr0 hc0
  have H : (laws_heldIntSS.l0 k l0 a1 0) = some r := h
  clear h
  have H' := Aside0.mk H
  clear H
  go_enter Try.func15, Try.ntmps15
  go_wp2
  go_loopg [1, 5] k (fun kq v1 v5 w' => ∃ (x1_1 : Int) (x5_1 : Int), v1 = .int .i64 x1_1 ∧ v5 = .int .i64 x5_1 ∧ Aside0 (laws_heldIntSS.l0 kq l0 x1_1 x5_1 = some r) ∧ Aside0 (kq ≤ k) ∧ Drawn0 w w')
  case atStart => exact ⟨(a1), (0), (by first | rfl | (simp; done) | (simp [*]; done)), (by first | rfl | (simp; done) | (simp [*]; done)), H', ⟨Nat.le_refl _⟩, by repeat (first | exact Drawn0.refl _ | apply Drawn0.step)⟩
  case round =>
    clear H'
    try clear c1
    try clear p2
    obtain ⟨x1_1, x5_1, rfl, rfl, HA, HK1, ⟨m1, rfl⟩⟩ := hrel
    cases gk with
    | zero => exact absurd HA.out (by simp [laws_heldIntSS.l0])
    | succ k1 =>
      have H := HA.out
      clear HA
      simp only [laws_heldIntSS.l0] at H
      by_cases c3 : x5_1 < (l0.length : Int)
      · rw [if_pos c3] at H
        have c3b0 : decide (x5_1 < (l0.length : Int)) = true := decide_eq_true c3
        clear c3
        by_cases c4 : 0 ≤ x5_1
        · rw [if_pos c4] at H
          have c4b0 : decide (0 ≤ x5_1) = true := decide_eq_true c4
          clear c4
          replace H := Option.bind_eq_some_iff.mp H
          obtain ⟨t196, A50, H⟩ := H
          replace H : (if t196 < 0 then (some (-1)) else (laws_heldIntSS.l0 k1 l0 t196 (wrap64 (x5_1 + 1)))) = some r := H
          have A5 := Aside0.mk A50
          clear A50
          by_cases c6 : t196 < 0
          · rw [if_pos c6] at H
            have c6b0 : decide (t196 < 0) = true := decide_eq_true c6
            clear c6
            obtain rfl := Option.some.inj H
            have p195 : 0 ≤ (x5_1 : Int) := of_decide_eq_true (by first | (with_reducible assumption) | assumption)
            have q195 : x5_1 < (l0.length : Int) := of_decide_eq_true (by first | (with_reducible assumption) | assumption)
            obtain ⟨ad195, A195_0, c195_0, e195, hx195_0, hl195_0, hi195_0⟩ := at_L1 HR0.out x5_1 p195 q195
            cases e195
            have HR195_0 := Aside0.mk hi195_0
            have HC195_0 := Aside0.mk hl195_0
            clear hi195_0 hl195_0
            replace p195 := eq_true p195
            replace q195 := eq_true q195
            go_wp2_with (first | ((with_reducible refine gate_callee (f := 20) rfl ?_); refine goesL_ (some 17) rfl rfl Try.func20 (by kernel_rfl) rfl #[.slice A195_0 (rd_L1 l0 x5_1).length c195_0, .int .i64 x1_1] rfl (by (try simp only [List.map_toArray, List.map_cons, List.map_nil]); first | done | rfl | (simp only [List.length_drop, List.length_take]; rfl)) ?_; (with_reducible refine (laws_heldIntS.calls k1 _ _ (rd_L1 l0 x5_1) x1_1 t196 _ ?side1 ?side2 A5.out).mono ?_); (case side1 => repeat (first | exact HR195_0.out | (with_reducible refine Kd.C_alloc ?_ _) | (with_reducible refine Kd.C_drewN ?_ _) | (with_reducible refine Kd.C_drew ?_))); (case side2 => exact HC195_0.out); rintro e w' ⟨rfl, ⟨nd, rfl⟩⟩; refine ⟨_, rfl, ?_⟩))
            go_ret
            exact ⟨by first | rfl | (simp; done) | (simp [*]; done), by repeat (first | exact Drawn0.refl _ | apply Drawn0.step)⟩
          · rw [if_neg c6] at H
            have c6b0 : decide (t196 < 0) = false := decide_eq_false c6
            clear c6
            have H' := Aside0.mk H
            clear H
            have p195 : 0 ≤ (x5_1 : Int) := of_decide_eq_true (by first | (with_reducible assumption) | assumption)
            have q195 : x5_1 < (l0.length : Int) := of_decide_eq_true (by first | (with_reducible assumption) | assumption)
            obtain ⟨ad195, A195_0, c195_0, e195, hx195_0, hl195_0, hi195_0⟩ := at_L1 HR0.out x5_1 p195 q195
            cases e195
            have HR195_0 := Aside0.mk hi195_0
            have HC195_0 := Aside0.mk hl195_0
            clear hi195_0 hl195_0
            replace p195 := eq_true p195
            replace q195 := eq_true q195
            go_wp2_with (first | ((with_reducible refine gate_callee (f := 20) rfl ?_); refine goesL_ (some 17) rfl rfl Try.func20 (by kernel_rfl) rfl #[.slice A195_0 (rd_L1 l0 x5_1).length c195_0, .int .i64 x1_1] rfl (by (try simp only [List.map_toArray, List.map_cons, List.map_nil]); first | done | rfl | (simp only [List.length_drop, List.length_take]; rfl)) ?_; (with_reducible refine (laws_heldIntS.calls k1 _ _ (rd_L1 l0 x5_1) x1_1 t196 _ ?side1 ?side2 A5.out).mono ?_); (case side1 => repeat (first | exact HR195_0.out | (with_reducible refine Kd.C_alloc ?_ _) | (with_reducible refine Kd.C_drewN ?_ _) | (with_reducible refine Kd.C_drew ?_))); (case side2 => exact HC195_0.out); rintro e w' ⟨rfl, ⟨nd, rfl⟩⟩; refine ⟨_, rfl, ?_⟩))
            go_roundg k1
            case measure => have := HK1.out; omega
            case rel => exact ⟨(t196), (wrap64 (x5_1 + 1)), (by first | rfl | (simp; done) | (simp [*]; done)), (by first | rfl | (simp; done) | (simp [*]; done)), H', ⟨by have := HK1.out; omega⟩, by repeat (first | exact Drawn0.refl _ | apply Drawn0.step)⟩
        · rw [if_neg c4] at H
          exact absurd H (by simp)
      · rw [if_neg c3] at H
        have c3b0 : decide (x5_1 < (l0.length : Int)) = false := decide_eq_false c3
        clear c3
        obtain rfl := Option.some.inj H
        go_wp2
        go_ret
        exact ⟨by first | rfl | (simp; done) | (simp [*]; done), by repeat (first | exact Drawn0.refl _ | apply Drawn0.step)⟩
def laws_FnExactAllArrays.g3 (k : Nat) (l0_0 : List Int) (a1 : Int) (w1 : List (List Int)) (w2 : Bool) (m : Int) (G : List (List Int)) : Option Bool :=
  (laws_toPoset.f k l0_0).bind fun u0 =>
  (impl_AllArrays.f k u0 a1).bind fun t3 => (laws_eqIntSS.f k t3.1 w1).bind fun t4 => if t4 = true then (if t3.2 = w2 then (laws_heldIntSS.f k G 1).bind fun t5 => if t5 < 0 then none else if t5 = m then some true else none else none) else none
def laws_FnExactAllArrays.g2 (k : Nat) (l0_0 : List Int) (a1 : Int) (w1 : List (List Int)) (w2 : Bool) (g1 : List (List Int)) : Option Bool :=
  (laws_markIntSS.f k g1 1).bind fun t1 => (laws_heldIntSS.f k t1.2 1).bind fun t2 => if t2 < 0 then none else if t2 = t1.1 then laws_FnExactAllArrays.g3 k l0_0 a1 w1 w2 t1.1 t1.2 else none
def laws_FnExactAllArrays.g1 (k : Nat) (l0_0 : List Int) (a1 : Int) (w1 : List (List Int)) (w2 : Bool) (x0 : List Int) (g1 : List (List Int)) : Option Bool :=
  (laws_toPoset.f k l0_0).bind fun u0 => (laws_eqPoset.f k x0 u0).bind fun e0 => if e0 = true then (laws_markPoset.f k x0 1).bind fun m0 =>
  if m0.1 < 0 then none else
  (laws_eqIntSS.f k g1 w1).bind fun t7 => if t7 = true then laws_FnExactAllArrays.g2 k l0_0 a1 w1 w2 g1 else none else none
def laws_FnExactAllArrays.f (k : Nat) (l0_0 : List Int) (a1 : Int) : Option Bool :=
  (laws_szPoset.f l0_0 1048576).bind fun z0 => if z0 < 0 then some true else
  (laws_toPoset.f k l0_0).bind fun s0 =>
  (spec_AllArrays.f k s0 a1).bind fun t3 =>
  (laws_toPoset.f k l0_0).bind fun x0 =>
  (impl_AllArrays.f k x0 a1).bind fun t6 => (laws_eqIntSS.f k t6.1 t3.1).bind fun t7 => if t7 = true then (if t6.2 = t3.2 then laws_FnExactAllArrays.g1 k l0_0 a1 t3.1 t3.2 x0 t6.1 else none) else none
theorem laws_FnExactAllArrays.mono : ∀ a0_ a1_ k, LeO (laws_FnExactAllArrays.f k a0_ a1_) (laws_FnExactAllArrays.f (k + 1) a0_ a1_) := by
  intro a0_ a1_ k
  unfold laws_FnExactAllArrays.f laws_FnExactAllArrays.g1 laws_FnExactAllArrays.g2 laws_FnExactAllArrays.g3
  repeat' first
    | (with_reducible exact LeO.refl _)
    | (with_reducible exact laws_toPoset.mono _ _)
    | (with_reducible exact spec_AllArrays.mono _ _ _)
    | (with_reducible exact impl_AllArrays.mono _ _ _)
    | (with_reducible exact laws_eqIntSS.mono _ _ _)
    | (with_reducible exact laws_eqPoset.mono _ _ _)
    | (with_reducible exact laws_markPoset.mono _ _ _)
    | (with_reducible exact laws_markIntSS.mono _ _ _)
    | (with_reducible exact laws_heldIntSS.mono _ _ _)
    | (with_reducible refine LeO.ite ?_ ?_)
    | (with_reducible refine LeO.bind ?_ (fun _ => ?_))
open Go.Proofs.Ytldbabadbggleaa.X in
set_option maxHeartbeats 16000000 in
set_option maxRecDepth 100000 in
theorem laws_FnExactAllArrays.calls (k : Nat) (A0_0 : Option Addr) (c0_0 : Nat) (l0_0 : List Int) (a1 : Int) (r : Bool) (w : World) (hr0 : Kd.C (Kd.int .i64) w A0_0 l0_0.length l0_0) (hc0 : l0_0.length ≤ c0_0) (h : laws_FnExactAllArrays.f k l0_0 a1 = some r) :
    Calls Try.prog 3 #[.agg #[.slice A0_0 l0_0.length c0_0], .int .i64 a1] w fun e w' => e = .returned (.bool r) ∧ Below w.heap.size w w' := by
  have HR0 := Aside0.mk hr0
  have HC0 := Aside0.mk hc0
  clear hr0 hc0
  have hu := Try.underlying29
  have hu2 := Try.underlying24
  unfold laws_FnExactAllArrays.f at h
  have hn_ := Option.bind_eq_some_iff.mp h
  clear h
  obtain ⟨z, hz, h⟩ := hn_
  have HZ := Aside0.mk hz
  have H := Aside0.mk h
  clear hz h
  go_enter Try.func3, Try.ntmps3
  go_wp2_with fail
  have B0 := Aside0.mk (below_alloc (Below.refl w.heap.size w) (.cells #[.slice A0_0 l0_0.length c0_0] 24))
  have R0 := Aside0.mk (Kd.C_alloc HR0.out (.cells #[.slice A0_0 l0_0.length c0_0] 24))
  have Z0 := Aside0.mk (show (w.alloc (.cells #[.slice A0_0 l0_0.length c0_0] 24)).cell? ⟨w.heap.size, 0, none⟩ = some (.slice A0_0 l0_0.length c0_0) by simp)
  have S0 := Aside0.mk (show w.heap.size < (w.alloc (.cells #[.slice A0_0 l0_0.length c0_0] 24)).heap.size by simp)
  generalize w.alloc (.cells #[.slice A0_0 l0_0.length c0_0] 24) = W0 at B0 R0 Z0 S0 ⊢
  generalize hgs : w.heap.size = gb at Z0 S0 ⊢
  clear hgs
  refine (laws_szPoset.calls _ _ l0_0 1048576 z _ R0.out HC0.out HZ.out).mono ?_
  rintro e w1 ⟨rfl, hb⟩
  have B := Aside0.mk hb
  clear hb HZ
  have hz1 : w1.cell? ⟨gb, 0, none⟩ = some (.slice A0_0 l0_0.length c0_0) := (B.out.cell (p := ⟨gb, 0, none⟩) S0.out).trans Z0.out
  have h := H.out
  clear H
  by_cases c2 : z < 0
  · rw [if_pos c2] at h
    have c2b : decide (z < 0) = true := decide_eq_true c2
    obtain rfl := Option.some.inj h
    go_wp2
    go_ret
    exact ⟨rfl, below_to B0.out B.out⟩
  rw [if_neg c2] at h
  have c2b : decide (z < 0) = false := decide_eq_false c2
  clear c2
  have hn_ := Option.bind_eq_some_iff.mp h
  clear h
  obtain ⟨s0, h_, h⟩ := hn_
  have H_s0 := Aside0.mk h_
  clear h_
  have H := Aside0.mk h
  clear h
  go_wp2_with fail
  refine (laws_toPoset.calls k _ _ l0_0 s0 _ (Kd.C_below R0.out B.out) HC0.out H_s0.out).mono ?_
  rintro e w2 ⟨v_, rfl, ho, hb⟩
  have hs_ := hb.size
  have ho_ := Kd.R_lower (Kd.R_mono (ok' := fun k_ => w1.heap.size ≤ k_ ∧ k_ < w2.heap.size) (Kd.R_bound ho) (fun k_ hk => ⟨hk.2.1, hk.2.2.1⟩)) B.out.size
  obtain ⟨A_P0, c_P0, e_P0⟩ := Kd.R_slice ho_
  subst e_P0
  have O2 := Aside0.mk hs_
  clear hs_ ho
  have P0 := Aside0.mk ho_
  clear ho_
  have B_ := below_to B.out hb
  clear B
  have B := Aside0.mk B_
  clear B_
  clear hb
  clear hz1
  have hz2 : w2.cell? ⟨gb, 0, none⟩ = some (.slice A0_0 l0_0.length c0_0) := (B.out.cell (p := ⟨gb, 0, none⟩) S0.out).trans Z0.out
  have h := H.out
  clear H
  have hn_ := Option.bind_eq_some_iff.mp h
  clear h
  obtain ⟨⟨w1_, w2_⟩, h_, h⟩ := hn_
  have H_w1_ := Aside0.mk h_
  clear h_
  have H := Aside0.mk h
  clear h
  go_wp2_with fail
  refine (spec_AllArrays.calls k _ _ s0 a1 w1_ w2_ _ (Kd.R_reads' P0.out).2.2 (Kd.R_reads' P0.out).2.1 H_w1_.out).mono ?_
  rintro e w3 ⟨v_, rfl, ho, hb⟩
  have hs_ := hb.size
  have ho_ : Kd.N (Kd.slice 3 (Kd.int .i64)) 22 w3 W0.heap.size (fun k_ => w2.heap.size ≤ k_ ∧ k_ < w3.heap.size) v_ _ := Kd.N_lower (Kd.N_mono (Kd.N_bound ho) (fun k_ hk => ⟨hk.1, hk.2⟩)) B.out.size
  obtain ⟨A_G0, c_G0, e_G0⟩ := Kd.N_slice ho_
  subst e_G0
  have O3 := Aside0.mk hs_
  clear hs_ ho
  have G0 := Aside0.mk ho_
  clear ho_
  have B_ := below_to B.out hb
  have P0_ := Kd.R_below P0.out hb
  clear B P0
  have B := Aside0.mk B_
  clear B_
  have P0 := Aside0.mk P0_
  clear P0_
  clear hb
  clear hz2
  have hz3 : w3.cell? ⟨gb, 0, none⟩ = some (.slice A0_0 l0_0.length c0_0) := (B.out.cell (p := ⟨gb, 0, none⟩) S0.out).trans Z0.out
  have h := H.out
  clear H
  clear P0
  have hn_ := Option.bind_eq_some_iff.mp h
  clear h
  obtain ⟨x0, h_, h⟩ := hn_
  have H_x0 := Aside0.mk h_
  clear h_
  have H := Aside0.mk h
  clear h
  go_wp2_with fail
  refine (laws_toPoset.calls k _ _ l0_0 x0 _ (Kd.C_below R0.out B.out) HC0.out H_x0.out).mono ?_
  rintro e w4 ⟨v_, rfl, ho, hb⟩
  have hs_ := hb.size
  have ho_ := Kd.R_lower (Kd.R_mono (ok' := fun k_ => w3.heap.size ≤ k_ ∧ k_ < w4.heap.size) (Kd.R_bound ho) (fun k_ hk => ⟨hk.2.1, hk.2.2.1⟩)) B.out.size
  obtain ⟨A_X0, c_X0, e_X0⟩ := Kd.R_slice ho_
  subst e_X0
  have O4 := Aside0.mk hs_
  clear hs_ ho
  have X0 := Aside0.mk ho_
  clear ho_
  have B_ := below_to B.out hb
  have G0_ := Kd.N_below G0.out hb
  clear B G0
  have B := Aside0.mk B_
  clear B_
  have G0 := Aside0.mk G0_
  clear G0_
  clear hb
  clear hz3
  have hz4 : w4.cell? ⟨gb, 0, none⟩ = some (.slice A0_0 l0_0.length c0_0) := (B.out.cell (p := ⟨gb, 0, none⟩) S0.out).trans Z0.out
  have h := H.out
  clear H
  have H := Aside0.mk h
  clear h
  go_wp2_with fail
  have hb := below_alloc (Below.refl w4.heap.size w4) (.cells #[.slice A_X0 x0.length c_X0] 29)
  have BX := Aside0.mk (MapKept.heap_alloc w4 (.cells #[.slice A_X0 x0.length c_X0] 29)).1
  have O5 := Aside0.mk (show w4.heap.size < (w4.alloc (.cells #[.slice A_X0 x0.length c_X0] 29)).heap.size by simp)
  generalize hgw : w4.alloc (.cells #[.slice A_X0 x0.length c_X0] 29) = w5 at hb BX O5 ⊢
  clear hgw
  have B_ := below_to B.out hb
  have G0_ := Kd.N_below G0.out hb
  have X0_ := Kd.R_below X0.out hb
  clear B G0 X0
  have B := Aside0.mk B_
  clear B_
  have G0 := Aside0.mk G0_
  clear G0_
  have X0 := Aside0.mk X0_
  clear X0_
  clear hb
  clear hz4
  have hx5 : w5.cell? ⟨w4.heap.size, 0, none⟩ = some (.slice A_X0 x0.length c_X0) := blk_cell BX.out 0
  have hz5 : w5.cell? ⟨gb, 0, none⟩ = some (.slice A0_0 l0_0.length c0_0) := (B.out.cell (p := ⟨gb, 0, none⟩) S0.out).trans Z0.out
  have h := H.out
  clear H
  have hn_ := Option.bind_eq_some_iff.mp h
  clear h
  obtain ⟨⟨g1_, g2_⟩, h_, h⟩ := hn_
  have H_g1_ := Aside0.mk h_
  clear h_
  have H := Aside0.mk h
  clear h
  go_wp2_with fail
  refine (impl_AllArrays.calls k _ _ x0 a1 g1_ g2_ _ (Kd.R_reads' X0.out).2.2 (Kd.R_reads' X0.out).2.1 H_g1_.out).mono ?_
  rintro e w6 ⟨v_, rfl, ho, hb⟩
  have hs_ := hb.size
  have ho_ := Kd.S_lower (Kd.S_mono (ok' := fun k_ => w5.heap.size ≤ k_ ∧ k_ < w6.heap.size) (Kd.S_bound ho) (fun k_ hk => ⟨hk.2.1, hk.2.2.1⟩)) B.out.size
  obtain ⟨A_G1, c_G1, e_G1⟩ := Kd.S_slice ho_
  subst e_G1
  have O6 := Aside0.mk hs_
  clear hs_ ho
  have G1 := Aside0.mk ho_
  clear ho_
  have B_ := below_to B.out hb
  have G0_ := Kd.N_below G0.out hb
  have X0_ := Kd.R_below X0.out hb
  have BX_ := blk_below (g := w4.heap.size) (o := .cells #[.slice A_X0 x0.length c_X0] 29 (0, 0)) BX.out hb
  clear B G0 X0 BX
  have BX := Aside0.mk BX_
  clear BX_
  have B := Aside0.mk B_
  clear B_
  have G0 := Aside0.mk G0_
  clear G0_
  have X0 := Aside0.mk X0_
  clear X0_
  clear hb
  clear hz5 hx5
  have hx6 : w6.cell? ⟨w4.heap.size, 0, none⟩ = some (.slice A_X0 x0.length c_X0) := blk_cell BX.out 0
  have hz6 : w6.cell? ⟨gb, 0, none⟩ = some (.slice A0_0 l0_0.length c0_0) := (B.out.cell (p := ⟨gb, 0, none⟩) S0.out).trans Z0.out
  have h := H.out
  clear H
  have hn_ := Option.bind_eq_some_iff.mp h
  clear h
  obtain ⟨t7, h_, h⟩ := hn_
  have H_t7 := Aside0.mk h_
  clear h_
  have H := Aside0.mk h
  clear h
  go_wp2_with fail
  refine (laws_eqIntSS.calls k _ _ g1_ _ _ w1_ t7 _ (Kd.S_reads' G1.out).2.2 (Kd.S_reads' G1.out).2.1 (Kd.N_reads' G0.out).2.2 (Kd.N_reads' G0.out).2.1 H_t7.out).mono ?_
  rintro e w7 ⟨rfl, hd_⟩
  have hb : Below w6.heap.size w6 w7 := by obtain ⟨nd_, rfl⟩ := hd_; exact pw_below_drewN (Below.refl _ _) _
  clear hd_
  have B_ := below_to B.out hb
  have G0_ := Kd.N_below G0.out hb
  have X0_ := Kd.R_below X0.out hb
  have G1_ := Kd.S_below G1.out hb
  have BX_ := blk_below (g := w4.heap.size) (o := .cells #[.slice A_X0 x0.length c_X0] 29 (0, 0)) BX.out hb
  clear B G0 X0 G1 BX
  have BX := Aside0.mk BX_
  clear BX_
  have B := Aside0.mk B_
  clear B_
  have G0 := Aside0.mk G0_
  clear G0_
  have X0 := Aside0.mk X0_
  clear X0_
  have G1 := Aside0.mk G1_
  clear G1_
  clear hb
  clear hz6 hx6
  have hx7 : w7.cell? ⟨w4.heap.size, 0, none⟩ = some (.slice A_X0 x0.length c_X0) := blk_cell BX.out 0
  have hz7 : w7.cell? ⟨gb, 0, none⟩ = some (.slice A0_0 l0_0.length c0_0) := (B.out.cell (p := ⟨gb, 0, none⟩) S0.out).trans Z0.out
  have h := H.out
  clear H
  have hc_ : t7 = true := Classical.byContradiction fun hc_ => by rw [if_neg hc_] at h; cases h
  rw [if_pos hc_] at h
  subst hc_
  have hc_ : g2_ = w2_ := Classical.byContradiction fun hc_ => by rw [if_neg hc_] at h; cases h
  rw [if_pos hc_] at h
  subst hc_
  have hne : (g2_ != g2_) = false := by simp
  unfold laws_FnExactAllArrays.g1 at h
  have hn_ := Option.bind_eq_some_iff.mp h
  clear h
  obtain ⟨u0, h_, h⟩ := hn_
  have H_u0 := Aside0.mk h_
  clear h_
  have hn_ := Option.bind_eq_some_iff.mp h
  clear h
  obtain ⟨e0, h_, h⟩ := hn_
  have H_e0 := Aside0.mk h_
  clear h_
  have hc_ : e0 = true := Classical.byContradiction fun hc_ => by rw [if_neg hc_] at h; cases h
  rw [if_pos hc_] at h
  subst hc_
  have H := Aside0.mk h
  clear h
  go_wp2_with fail
  go_region_held3 (fun w' => w'.cell? ⟨w4.heap.size, 0, none⟩ = some (.slice A_X0 x0.length c_X0) ∧ w'.cell? ⟨gb, 0, none⟩ = some (.slice A0_0 l0_0.length c0_0) ∧ Below w7.heap.size w7 w')
    (first | exact ⟨hx7, hz7, below_drew (Below.refl _ _)⟩ | exact ⟨pw_cell_below hb hx7, pw_cell_below hb hz7, below_to (below_drew (Below.refl _ _)) hb⟩ | exact ⟨pw_cell_below hb (And.left (by assumption)), pw_cell_below hb (And.left (And.right (by assumption))), below_to (And.right (And.right (by assumption))) hb⟩)
    (first
      | (go_at_call 9; refine (laws_toPoset.calls k _ _ l0_0 u0 _ (Kd.C_below R0.out (by first | exact B.out | exact below_drew B.out | exact below_to B.out (And.right (And.right (by assumption))))) HC0.out H_u0.out).mono ?_; rintro e wu ⟨vu, rfl, hR, hb⟩; obtain ⟨Ao, co, rfl, hl, hC⟩ := Kd.R_reads hR)
      | (go_at_call 12; have B9 := Aside0.mk (show Below w7.heap.size w7 wu from And.right (And.right (by assumption))); refine (laws_eqPoset.calls k _ _ x0 _ _ u0 true _ (Kd.C_below (Kd.R_reads' X0.out).2.2 B9.out) (Kd.R_reads' X0.out).2.1 hC hl H_e0.out).mono ?_; rintro e w8 ⟨rfl, hb⟩))
  have hh_ : Below w7.heap.size w7 w8 := And.right (And.right (by assumption : w8.cell? ⟨w4.heap.size, 0, none⟩ = some (.slice A_X0 x0.length c_X0) ∧ w8.cell? ⟨gb, 0, none⟩ = some (.slice A0_0 l0_0.length c0_0) ∧ Below w7.heap.size w7 w8))
  clear hb
  have hb := hh_
  clear hh_
  have B_ := below_to B.out hb
  have G0_ := Kd.N_below G0.out hb
  have X0_ := Kd.R_below X0.out hb
  have G1_ := Kd.S_below G1.out hb
  have BX_ := blk_below (g := w4.heap.size) (o := .cells #[.slice A_X0 x0.length c_X0] 29 (0, 0)) BX.out hb
  clear B G0 X0 G1 BX
  have BX := Aside0.mk BX_
  clear BX_
  have B := Aside0.mk B_
  clear B_
  have G0 := Aside0.mk G0_
  clear G0_
  have X0 := Aside0.mk X0_
  clear X0_
  have G1 := Aside0.mk G1_
  clear G1_
  clear hb
  clear hz7 hx7
  have hx8 : w8.cell? ⟨w4.heap.size, 0, none⟩ = some (.slice A_X0 x0.length c_X0) := blk_cell BX.out 0
  have hz8 : w8.cell? ⟨gb, 0, none⟩ = some (.slice A0_0 l0_0.length c0_0) := (B.out.cell (p := ⟨gb, 0, none⟩) S0.out).trans Z0.out
  have h := H.out
  clear H
  have hn_ := Option.bind_eq_some_iff.mp h
  clear h
  obtain ⟨⟨m0, y0⟩, h_, h⟩ := hn_
  have H_m0 := Aside0.mk h_
  clear h_
  have H := Aside0.mk h
  clear h
  go_wp2_with fail
  refine (laws_markPoset.calls k (fun k_ => w3.heap.size ≤ k_ ∧ k_ < w4.heap.size) _ x0 1 m0 y0 W0 _ B.out X0.out H_m0.out).mono ?_
  rintro e w9 ⟨rfl, hy_, hbk, hk⟩
  have B_ := hbk
  have G0_ := Kd.N_kept G0.out hk (fun k_ (hk_ : w2.heap.size ≤ k_ ∧ k_ < w3.heap.size) (hs_ : w3.heap.size ≤ k_ ∧ k_ < w4.heap.size) => by have o2 := O2.out; have o3 := O3.out; have o4 := O4.out; have o5 := O5.out; have o6 := O6.out; omega)
  have G1_ := Kd.S_kept G1.out hk (fun k_ (hk_ : w5.heap.size ≤ k_ ∧ k_ < w6.heap.size) (hs_ : w3.heap.size ≤ k_ ∧ k_ < w4.heap.size) => by have o2 := O2.out; have o3 := O3.out; have o4 := O4.out; have o5 := O5.out; have o6 := O6.out; omega)
  have BX_ := blk_kept (g := w4.heap.size) (o := .cells #[.slice A_X0 x0.length c_X0] 29 (0, 0)) BX.out hk (fun (hs_ : w3.heap.size ≤ w4.heap.size ∧ w4.heap.size < w4.heap.size) => by have o2 := O2.out; have o3 := O3.out; have o4 := O4.out; have o5 := O5.out; have o6 := O6.out; omega)
  clear B G0 G1 BX
  have BX := Aside0.mk BX_
  clear BX_
  have B := Aside0.mk B_
  clear B_
  have G0 := Aside0.mk G0_
  clear G0_
  have G1 := Aside0.mk G1_
  clear G1_
  clear hy_ hbk hk
  clear X0
  clear hz8 hx8
  have hx9 : w9.cell? ⟨w4.heap.size, 0, none⟩ = some (.slice A_X0 x0.length c_X0) := blk_cell BX.out 0
  have hz9 : w9.cell? ⟨gb, 0, none⟩ = some (.slice A0_0 l0_0.length c0_0) := (B.out.cell (p := ⟨gb, 0, none⟩) S0.out).trans Z0.out
  have h := H.out
  clear H
  have hc_ : ¬ (m0 < 0) := fun hc_ => by rw [if_pos hc_] at h; cases h
  rw [if_neg hc_] at h
  have cm : decide (m0 < 0) = false := decide_eq_false hc_
  clear hc_
  have hn_ := Option.bind_eq_some_iff.mp h
  clear h
  obtain ⟨t8, h_, h⟩ := hn_
  have H_t8 := Aside0.mk h_
  clear h_
  have H := Aside0.mk h
  clear h
  go_wp2_with fail
  refine (laws_eqIntSS.calls k _ _ g1_ _ _ w1_ t8 _ (Kd.S_reads' G1.out).2.2 (Kd.S_reads' G1.out).2.1 (Kd.N_reads' G0.out).2.2 (Kd.N_reads' G0.out).2.1 H_t8.out).mono ?_
  rintro e w10 ⟨rfl, hd_⟩
  have hb : Below w9.heap.size w9 w10 := by obtain ⟨nd_, rfl⟩ := hd_; exact pw_below_drewN (Below.refl _ _) _
  clear hd_
  have B_ := below_to B.out hb
  have G0_ := Kd.N_below G0.out hb
  have G1_ := Kd.S_below G1.out hb
  have BX_ := blk_below (g := w4.heap.size) (o := .cells #[.slice A_X0 x0.length c_X0] 29 (0, 0)) BX.out hb
  clear B G0 G1 BX
  have BX := Aside0.mk BX_
  clear BX_
  have B := Aside0.mk B_
  clear B_
  have G0 := Aside0.mk G0_
  clear G0_
  have G1 := Aside0.mk G1_
  clear G1_
  clear hb
  clear hz9 hx9
  have hx10 : w10.cell? ⟨w4.heap.size, 0, none⟩ = some (.slice A_X0 x0.length c_X0) := blk_cell BX.out 0
  have hz10 : w10.cell? ⟨gb, 0, none⟩ = some (.slice A0_0 l0_0.length c0_0) := (B.out.cell (p := ⟨gb, 0, none⟩) S0.out).trans Z0.out
  have h := H.out
  clear H
  have hc_ : t8 = true := Classical.byContradiction fun hc_ => by rw [if_neg hc_] at h; cases h
  rw [if_pos hc_] at h
  subst hc_
  unfold laws_FnExactAllArrays.g2 at h
  have hn_ := Option.bind_eq_some_iff.mp h
  clear h
  obtain ⟨⟨m_, G_⟩, h_, h⟩ := hn_
  have H_m_ := Aside0.mk h_
  clear h_
  have H := Aside0.mk h
  clear h
  go_wp2_with fail
  refine (laws_markIntSS.calls k (fun k_ => w5.heap.size ≤ k_ ∧ k_ < w6.heap.size) _ g1_ 1 m_ G_ W0 _ B.out G1.out H_m_.out).mono ?_
  rintro e w11 ⟨rfl, hy_, hbk, hk⟩
  have B_ := hbk
  have G0_ := Kd.N_kept G0.out hk (fun k_ (hk_ : w2.heap.size ≤ k_ ∧ k_ < w3.heap.size) (hs_ : w5.heap.size ≤ k_ ∧ k_ < w6.heap.size) => by have o2 := O2.out; have o3 := O3.out; have o4 := O4.out; have o5 := O5.out; have o6 := O6.out; omega)
  have BX_ := blk_kept (g := w4.heap.size) (o := .cells #[.slice A_X0 x0.length c_X0] 29 (0, 0)) BX.out hk (fun (hs_ : w5.heap.size ≤ w4.heap.size ∧ w4.heap.size < w6.heap.size) => by have o2 := O2.out; have o3 := O3.out; have o4 := O4.out; have o5 := O5.out; have o6 := O6.out; omega)
  clear B G0 BX
  have BX := Aside0.mk BX_
  clear BX_
  have B := Aside0.mk B_
  clear B_
  have G0 := Aside0.mk G0_
  clear G0_
  clear hbk hk G1
  clear hz10 hx10
  have hx11 : w11.cell? ⟨w4.heap.size, 0, none⟩ = some (.slice A_X0 x0.length c_X0) := blk_cell BX.out 0
  have hz11 : w11.cell? ⟨gb, 0, none⟩ = some (.slice A0_0 l0_0.length c0_0) := (B.out.cell (p := ⟨gb, 0, none⟩) S0.out).trans Z0.out
  have hlen_ := (Kd.S_reads' hy_).1
  rw [hlen_] at hy_
  rw [hlen_]
  clear hlen_
  have G1 := Aside0.mk hy_
  clear hy_
  have h := H.out
  clear H
  have hn_ := Option.bind_eq_some_iff.mp h
  clear h
  obtain ⟨t9, h_, h⟩ := hn_
  have H_t9 := Aside0.mk h_
  clear h_
  have H := Aside0.mk h
  clear h
  go_wp2_with fail
  refine (laws_heldIntSS.calls k _ _ G_ 1 t9 _ (Kd.S_reads' G1.out).2.2 (Kd.S_reads' G1.out).2.1 H_t9.out).mono ?_
  rintro e w12 ⟨rfl, hd_⟩
  have hb : Below w11.heap.size w11 w12 := by obtain ⟨nd_, rfl⟩ := hd_; exact pw_below_drewN (Below.refl _ _) _
  clear hd_
  have B_ := below_to B.out hb
  have G0_ := Kd.N_below G0.out hb
  have G1_ := Kd.S_below G1.out hb
  have BX_ := blk_below (g := w4.heap.size) (o := .cells #[.slice A_X0 x0.length c_X0] 29 (0, 0)) BX.out hb
  clear B G0 G1 BX
  have BX := Aside0.mk BX_
  clear BX_
  have B := Aside0.mk B_
  clear B_
  have G0 := Aside0.mk G0_
  clear G0_
  have G1 := Aside0.mk G1_
  clear G1_
  clear hb
  clear hz11 hx11
  have hx12 : w12.cell? ⟨w4.heap.size, 0, none⟩ = some (.slice A_X0 x0.length c_X0) := blk_cell BX.out 0
  have hz12 : w12.cell? ⟨gb, 0, none⟩ = some (.slice A0_0 l0_0.length c0_0) := (B.out.cell (p := ⟨gb, 0, none⟩) S0.out).trans Z0.out
  have h := H.out
  clear H
  have hc_ : ¬ (t9 < 0) := fun hc_ => by rw [if_pos hc_] at h; cases h
  rw [if_neg hc_] at h
  have ct9 : decide (t9 < 0) = false := decide_eq_false hc_
  clear hc_
  have hc_ : t9 = m_ := Classical.byContradiction fun hc_ => by rw [if_neg hc_] at h; cases h
  rw [if_pos hc_] at h
  have ctm : (t9 == m_) = true := beq_iff_eq.mpr hc_
  have ctn : (t9 != m_) = false := by rw [hc_]; simp
  clear hc_
  unfold laws_FnExactAllArrays.g3 at h
  have hn_ := Option.bind_eq_some_iff.mp h
  clear h
  obtain ⟨h0, h_, h⟩ := hn_
  have H_h0 := Aside0.mk h_
  clear h_
  have H := Aside0.mk h
  clear h
  go_wp2_with fail
  refine (laws_toPoset.calls k _ _ l0_0 h0 _ (Kd.C_below R0.out B.out) HC0.out H_h0.out).mono ?_
  rintro e w13 ⟨v_, rfl, ho, hb⟩
  have hs_ := hb.size
  have ho_ := Kd.R_lower (Kd.R_mono (ok' := fun k_ => w12.heap.size ≤ k_ ∧ k_ < w13.heap.size) (Kd.R_bound ho) (fun k_ hk => ⟨hk.2.1, hk.2.2.1⟩)) B.out.size
  obtain ⟨A_Y0, c_Y0, e_Y0⟩ := Kd.R_slice ho_
  subst e_Y0
  have O13 := Aside0.mk hs_
  clear hs_ ho
  have Y0 := Aside0.mk ho_
  clear ho_
  have B_ := below_to B.out hb
  have G0_ := Kd.N_below G0.out hb
  have G1_ := Kd.S_below G1.out hb
  have BX_ := blk_below (g := w4.heap.size) (o := .cells #[.slice A_X0 x0.length c_X0] 29 (0, 0)) BX.out hb
  clear B G0 G1 BX
  have BX := Aside0.mk BX_
  clear BX_
  have B := Aside0.mk B_
  clear B_
  have G0 := Aside0.mk G0_
  clear G0_
  have G1 := Aside0.mk G1_
  clear G1_
  clear hb
  clear hz12 hx12
  have hx13 : w13.cell? ⟨w4.heap.size, 0, none⟩ = some (.slice A_X0 x0.length c_X0) := blk_cell BX.out 0
  have hz13 : w13.cell? ⟨gb, 0, none⟩ = some (.slice A0_0 l0_0.length c0_0) := (B.out.cell (p := ⟨gb, 0, none⟩) S0.out).trans Z0.out
  have h := H.out
  clear H
  have hn_ := Option.bind_eq_some_iff.mp h
  clear h
  obtain ⟨⟨h1_, h2_⟩, h_, h⟩ := hn_
  have H_h1_ := Aside0.mk h_
  clear h_
  have H := Aside0.mk h
  clear h
  go_wp2_with fail
  refine (impl_AllArrays.calls k _ _ h0 a1 h1_ h2_ _ (Kd.R_reads' Y0.out).2.2 (Kd.R_reads' Y0.out).2.1 H_h1_.out).mono ?_
  rintro e w14 ⟨v_, rfl, ho, hb⟩
  have hs_ := hb.size
  have ho_ := Kd.S_lower (Kd.S_mono (ok' := fun k_ => w13.heap.size ≤ k_ ∧ k_ < w14.heap.size) (Kd.S_bound ho) (fun k_ hk => ⟨hk.2.1, hk.2.2.1⟩)) B.out.size
  obtain ⟨A_G2, c_G2, e_G2⟩ := Kd.S_slice ho_
  subst e_G2
  have O14 := Aside0.mk hs_
  clear hs_ ho
  have G2 := Aside0.mk ho_
  clear ho_
  have B_ := below_to B.out hb
  have G0_ := Kd.N_below G0.out hb
  have G1_ := Kd.S_below G1.out hb
  have Y0_ := Kd.R_below Y0.out hb
  have BX_ := blk_below (g := w4.heap.size) (o := .cells #[.slice A_X0 x0.length c_X0] 29 (0, 0)) BX.out hb
  clear B G0 G1 Y0 BX
  have BX := Aside0.mk BX_
  clear BX_
  have B := Aside0.mk B_
  clear B_
  have G0 := Aside0.mk G0_
  clear G0_
  have G1 := Aside0.mk G1_
  clear G1_
  have Y0 := Aside0.mk Y0_
  clear Y0_
  clear hb
  clear hz13 hx13
  have hx14 : w14.cell? ⟨w4.heap.size, 0, none⟩ = some (.slice A_X0 x0.length c_X0) := blk_cell BX.out 0
  have hz14 : w14.cell? ⟨gb, 0, none⟩ = some (.slice A0_0 l0_0.length c0_0) := (B.out.cell (p := ⟨gb, 0, none⟩) S0.out).trans Z0.out
  have h := H.out
  clear H
  have hn_ := Option.bind_eq_some_iff.mp h
  clear h
  obtain ⟨t10, h_, h⟩ := hn_
  have H_t10 := Aside0.mk h_
  clear h_
  have H := Aside0.mk h
  clear h
  go_wp2_with fail
  refine (laws_eqIntSS.calls k _ _ h1_ _ _ w1_ t10 _ (Kd.S_reads' G2.out).2.2 (Kd.S_reads' G2.out).2.1 (Kd.N_reads' G0.out).2.2 (Kd.N_reads' G0.out).2.1 H_t10.out).mono ?_
  rintro e w15 ⟨rfl, hd_⟩
  have hb : Below w14.heap.size w14 w15 := by obtain ⟨nd_, rfl⟩ := hd_; exact pw_below_drewN (Below.refl _ _) _
  clear hd_
  have B_ := below_to B.out hb
  have G0_ := Kd.N_below G0.out hb
  have G1_ := Kd.S_below G1.out hb
  have Y0_ := Kd.R_below Y0.out hb
  have G2_ := Kd.S_below G2.out hb
  have BX_ := blk_below (g := w4.heap.size) (o := .cells #[.slice A_X0 x0.length c_X0] 29 (0, 0)) BX.out hb
  clear B G0 G1 Y0 G2 BX
  have BX := Aside0.mk BX_
  clear BX_
  have B := Aside0.mk B_
  clear B_
  have G0 := Aside0.mk G0_
  clear G0_
  have G1 := Aside0.mk G1_
  clear G1_
  have Y0 := Aside0.mk Y0_
  clear Y0_
  have G2 := Aside0.mk G2_
  clear G2_
  clear hb
  clear hz14 hx14
  have hx15 : w15.cell? ⟨w4.heap.size, 0, none⟩ = some (.slice A_X0 x0.length c_X0) := blk_cell BX.out 0
  have hz15 : w15.cell? ⟨gb, 0, none⟩ = some (.slice A0_0 l0_0.length c0_0) := (B.out.cell (p := ⟨gb, 0, none⟩) S0.out).trans Z0.out
  have h := H.out
  clear H
  have hc_ : t10 = true := Classical.byContradiction fun hc_ => by rw [if_neg hc_] at h; cases h
  rw [if_pos hc_] at h
  subst hc_
  have hc_ : h2_ = g2_ := Classical.byContradiction fun hc_ => by rw [if_neg hc_] at h; cases h
  rw [if_pos hc_] at h
  subst hc_
  have hn_ := Option.bind_eq_some_iff.mp h
  clear h
  obtain ⟨t11, h_, h⟩ := hn_
  have H_t11 := Aside0.mk h_
  clear h_
  have H := Aside0.mk h
  clear h
  go_wp2_with fail
  refine (laws_heldIntSS.calls k _ _ G_ 1 t11 _ (Kd.S_reads' G1.out).2.2 (Kd.S_reads' G1.out).2.1 H_t11.out).mono ?_
  rintro e w16 ⟨rfl, hd_⟩
  have hb : Below w15.heap.size w15 w16 := by obtain ⟨nd_, rfl⟩ := hd_; exact pw_below_drewN (Below.refl _ _) _
  clear hd_
  have B_ := below_to B.out hb
  have G0_ := Kd.N_below G0.out hb
  have G1_ := Kd.S_below G1.out hb
  have Y0_ := Kd.R_below Y0.out hb
  have G2_ := Kd.S_below G2.out hb
  have BX_ := blk_below (g := w4.heap.size) (o := .cells #[.slice A_X0 x0.length c_X0] 29 (0, 0)) BX.out hb
  clear B G0 G1 Y0 G2 BX
  have BX := Aside0.mk BX_
  clear BX_
  have B := Aside0.mk B_
  clear B_
  have G0 := Aside0.mk G0_
  clear G0_
  have G1 := Aside0.mk G1_
  clear G1_
  have Y0 := Aside0.mk Y0_
  clear Y0_
  have G2 := Aside0.mk G2_
  clear G2_
  clear hb
  clear hz15 hx15
  have hx16 : w16.cell? ⟨w4.heap.size, 0, none⟩ = some (.slice A_X0 x0.length c_X0) := blk_cell BX.out 0
  have hz16 : w16.cell? ⟨gb, 0, none⟩ = some (.slice A0_0 l0_0.length c0_0) := (B.out.cell (p := ⟨gb, 0, none⟩) S0.out).trans Z0.out
  have h := H.out
  clear H
  have hc_ : ¬ (t11 < 0) := fun hc_ => by rw [if_pos hc_] at h; cases h
  rw [if_neg hc_] at h
  have ct11 : decide (t11 < 0) = false := decide_eq_false hc_
  clear hc_
  have hc_ : t11 = m_ := Classical.byContradiction fun hc_ => by rw [if_neg hc_] at h; cases h
  rw [if_pos hc_] at h
  have cto : (t11 == m_) = true := beq_iff_eq.mpr hc_
  have ctp : (t11 != m_) = false := by rw [hc_]; simp
  clear hc_
  obtain rfl := Option.some.inj h
  go_wp2
  go_ret
  exact ⟨rfl, below_to B0.out B.out⟩
end Go.Proofs.Ytldbabadbggleaa.L
end
section
namespace Go.Proofs.Ytldbabadbggleaa.L
open Go.RowKit Go.Proofs.YtldbabadbggleaaW.PrintWords Go.Proofs.YtldbabadbggleaaW.PrintLast
def laws_FnExactAllArrays.Pure2 : Prop := ∀ (l0 : List Int) (a1 : Int), l0.length ≤ maxLen → (∀ x ∈ l0, (Lit.int .i64 x).wf = true) → (Lit.int .i64 a1).wf = true → ∃ k, laws_FnExactAllArrays.f k l0 a1 = some true
end Go.Proofs.Ytldbabadbggleaa.L
end
section
namespace Go.Proofs.Ytldbabadbggleaa.L
open Go.RowKit Go.Proofs.YtldbabadbggleaaW.PrintWords Go.Proofs.YtldbabadbggleaaW.PrintLast Go.Proofs.YtldbabadbggleaaW.PrintMore
attribute [local go_sem] max2_int min2_int max_two min_two max_three min_three max_four min_four
set_option linter.unusedVariables false
set_option linter.unusedSimpArgs false
end Go.Proofs.Ytldbabadbggleaa.L
end
section
namespace Go.Proofs.Ytldbabadbggleaa.M
open Go.RowKit Go.Proofs.YtldbabadbggleaaW.PrintWords Go.Proofs.YtldbabadbggleaaW.PrintLast Go.Proofs.YtldbabadbggleaaW.PrintMore
theorem wrap_id {x : Int} (h0 : -9223372036854775808 ≤ x) (h1 : x ≤ 9223372036854775807) : wrap64 x = x := by unfold wrap64; omega
theorem wrap_succ {i : Nat} (h : i < 9223372036854775807) : wrap64 ((i : Int) + 1) = ((i + 1 : Nat) : Int) := by unfold wrap64; omega
theorem rd_get {l : List Int} {i : Nat} (h : i < l.length) : rd l (i : Int) = l[i] := by simp [rd, List.getD_eq_getElem?_getD, h]
theorem ev_ite {α : Type} {c : Prop} [Decidable c] {f g : Nat → Option α} {r : α} (h1 : c → Ev f r) (h2 : ¬ c → Ev g r) : Ev (fun k => if c then f k else g k) r := by
  by_cases h : c
  · obtain ⟨K, hK⟩ := h1 h; exact ⟨K, fun k hk => by simp only [if_pos h]; exact hK k hk⟩
  · obtain ⟨K, hK⟩ := h2 h; exact ⟨K, fun k hk => by simp only [if_neg h]; exact hK k hk⟩
theorem ev_pos {α : Type} {c : Prop} [Decidable c] {f g : Nat → Option α} {r : α} (h : c) (h1 : Ev f r) : Ev (fun k => if c then f k else g k) r := ev_ite (fun _ => h1) (fun h2 => absurd h h2)
theorem ev_neg {α : Type} {c : Prop} [Decidable c] {f g : Nat → Option α} {r : α} (h : ¬ c) (h1 : Ev g r) : Ev (fun k => if c then f k else g k) r := ev_ite (fun h2 => absurd h2 h) (fun _ => h1)
theorem ev_call {α β : Type} {x : Option α} {a : α} {f : Nat → α → Option β} {r : β} (h : x = some a) (k : Ev (fun n => f n a) r) : Ev (fun n => x.bind (f n)) r := by subst h; simpa using k
def inB (x lo hi : Int) : Bool := decide (lo ≤ x) && decide (x ≤ hi)
theorem inB_iff {x lo hi : Int} : inB x lo hi = true ↔ lo ≤ x ∧ x ≤ hi := by simp [inB]
def sd (a b : Nat) : Nat := a ^^^ (a &&& b)
theorem sd_bit (a b i : Nat) : (sd a b).testBit i = (a.testBit i && !b.testBit i) := by
  unfold sd; rw [Nat.testBit_xor, Nat.testBit_and]; cases a.testBit i <;> cases b.testBit i <;> rfl
theorem sd_zero {a b : Nat} : sd a b = 0 ↔ ∀ i, a.testBit i = true → b.testBit i = true := by
  constructor
  · intro h i ha
    have := sd_bit a b i
    rw [h, Nat.zero_testBit, ha] at this
    cases hb : b.testBit i
    · rw [hb] at this; simp at this
    · rfl
  · intro h
    apply Nat.eq_of_testBit_eq
    intro i
    rw [sd_bit, Nat.zero_testBit]
    cases ha : a.testBit i
    · rfl
    · rw [h i ha]; rfl
theorem sd_le (a b : Nat) : sd a b ≤ a := by
  have e : sd a b = sd a b &&& a := by
    apply Nat.eq_of_testBit_eq
    intro i
    rw [Nat.testBit_and, sd_bit]
    cases a.testBit i <;> cases b.testBit i <;> rfl
  rw [e]; exact Nat.and_le_right
theorem sd_lt {a : Nat} (b : Nat) {n : Nat} (h : a < 2 ^ n) : sd a b < 2 ^ n := Nat.lt_of_le_of_lt (sd_le a b) h
theorem wrap_nat {x : Nat} (h : x < 2 ^ 63) : IntKind.i64.wrap (x : Int) = (x : Int) := by
  rw [IntKind.wrap_i64]
  have : (x : Int) < 9223372036854775808 := by
    have h2 : (2 : Nat) ^ 63 = 9223372036854775808 := by decide
    omega
  omega
theorem ofInt_nat {a : Nat} (h : a < 2 ^ 63) : (BitVec.ofInt IntKind.i64.bits (a : Int)).toNat = a := by
  have e : IntKind.i64.bits = 64 := rfl
  rw [e, BitVec.ofInt_natCast, BitVec.toNat_ofNat]
  exact Nat.mod_eq_of_lt (Nat.lt_of_lt_of_le h (by decide))
theorem bits_and {a b : Nat} (ha : a < 2 ^ 63) (hb : b < 2 ^ 63) : Go.bits .and .i64 (a : Int) (b : Int) = ((a &&& b : Nat) : Int) := by
  simp only [Go.bits, BitVec.toNat_and, ofInt_nat ha, ofInt_nat hb]
  exact wrap_nat (Nat.and_lt_two_pow _ hb)
theorem bits_andNot {a b : Nat} (ha : a < 2 ^ 63) (hb : b < 2 ^ 63) : Go.bits .andNot .i64 (a : Int) (b : Int) = ((sd a b : Nat) : Int) := by
  have e : (BitVec.ofInt IntKind.i64.bits (a : Int) &&& ~~~(BitVec.ofInt IntKind.i64.bits (b : Int))).toNat = sd a b := by
    apply Nat.eq_of_testBit_eq
    intro i
    rw [BitVec.toNat_and, Nat.testBit_and, ofInt_nat ha, sd_bit]
    cases hai : a.testBit i
    · rfl
    · have hi : i < 64 := by
        apply Nat.lt_of_not_le; intro h
        have : a < 2 ^ i := Nat.lt_of_lt_of_le ha (Nat.pow_le_pow_right (by decide) (by omega))
        rw [Nat.testBit_lt_two_pow this] at hai; cases hai
      have e2 : (~~~(BitVec.ofInt IntKind.i64.bits (b : Int))).toNat.testBit i = (~~~(BitVec.ofInt IntKind.i64.bits (b : Int))).getLsbD i := rfl
      have e3 : (BitVec.ofInt IntKind.i64.bits (b : Int)).getLsbD i = b.testBit i := by
        show (BitVec.ofInt IntKind.i64.bits (b : Int)).toNat.testBit i = _
        rw [ofInt_nat hb]
      rw [e2, BitVec.getLsbD_not, e3]
      have : decide (i < IntKind.i64.bits) = true := decide_eq_true hi
      rw [this, Bool.true_and]
  simp only [Go.bits]
  rw [e]
  exact wrap_nat (sd_lt b ha)
theorem shl_one {i : Nat} (h : i < 63) : shl .i64 1 (i : Int) = ((2 ^ i : Nat) : Int) := by
  unfold shl
  have e : min (i : Int).toNat IntKind.i64.bits = i := by
    have : IntKind.i64.bits = 64 := rfl
    rw [this, Int.toNat_natCast]; omega
  rw [e, Int.one_mul]
  have : ((2 : Int) ^ i) = ((2 ^ i : Nat) : Int) := by simp
  rw [this]
  exact wrap_nat (Nat.pow_lt_pow_right (by decide) h)
theorem shl_one' {i : Nat} (h : i < 62) : wrap64 (shl .i64 1 (i : Int) - 1) = ((2 ^ i - 1 : Nat) : Int) := by
  rw [shl_one (by omega)]
  have h1 : 0 < 2 ^ i := Nat.two_pow_pos i
  have h2 : 2 ^ i ≤ 2 ^ 62 := Nat.pow_le_pow_right (by decide) (by omega)
  have h3 : (2 : Nat) ^ 62 = 4611686018427387904 := by decide
  rw [wrap_id (by omega) (by omega)]; omega
theorem shr_nat {a i : Nat} (h : i ≤ 64) : shr .i64 (a : Int) (i : Int) = ((a / 2 ^ i : Nat) : Int) := by
  unfold shr
  have e : min (i : Int).toNat IntKind.i64.bits = i := by
    have : IntKind.i64.bits = 64 := rfl
    rw [this, Int.toNat_natCast]; omega
  rw [e]; simp
theorem bit_mod {a i : Nat} (h : i ≤ 64) : (Int.tmod (shr .i64 (a : Int) (i : Int)) 2 == 1) = a.testBit i := by
  rw [shr_nat h]
  have : Int.tmod ((a / 2 ^ i : Nat) : Int) 2 = ((a / 2 ^ i % 2 : Nat) : Int) := by
    rw [show (2 : Int) = ((2 : Nat) : Int) from rfl, Int.ofNat_tmod]
  rw [this, Nat.testBit_eq_decide_div_mod_eq, Bool.eq_iff_iff, beq_iff_eq, decide_eq_true_eq]
  omega
theorem bit_mod' {a i : Nat} (h : i ≤ 64) : (Int.tmod (shr .i64 (a : Int) (i : Int)) 2 = 1) ↔ a.testBit i = true := by
  rw [← bit_mod h]; simp
theorem bit_and {a i : Nat} (ha : a < 2 ^ 63) (h : i ≤ 64) : (Go.bits .and .i64 (shr .i64 (a : Int) (i : Int)) 1 == 1) = a.testBit i := by
  rw [shr_nat h, show (1 : Int) = ((1 : Nat) : Int) from rfl, bits_and (Nat.lt_of_le_of_lt (Nat.div_le_self _ _) ha) (by decide), Nat.and_one_is_mod, Nat.testBit_eq_decide_div_mod_eq, Bool.eq_iff_iff, beq_iff_eq, decide_eq_true_eq]
  omega
theorem bit_lt {a i n : Nat} (h : a < 2 ^ n) (hi : a.testBit i = true) : i < n := by
  apply Nat.lt_of_not_le; intro h2
  rw [Nat.testBit_lt_two_pow (Nat.lt_of_lt_of_le h (Nat.pow_le_pow_right (by decide) h2))] at hi; cases hi
theorem lt63 {a n : Nat} (h : a < 2 ^ n) (hn : n ≤ 63) : a < 2 ^ 63 := Nat.lt_of_lt_of_le h (Nat.pow_le_pow_right (by decide) hn)
end Go.Proofs.Ytldbabadbggleaa.M
end
section
namespace Go.Proofs.Ytldbabadbggleaa.M
set_option linter.unusedVariables false
open Go.RowKit Go.Proofs.YtldbabadbggleaaW.PrintWords Go.Proofs.YtldbabadbggleaaW.PrintLast Go.Proofs.YtldbabadbggleaaW.PrintMore
def toI (p : List Nat) : List Int := p.map fun (x : Nat) => (x : Int)
@[simp] theorem toI_len (p : List Nat) : (toI p).length = p.length := by simp [toI]
@[simp] theorem toI_nil : toI [] = [] := rfl
theorem toI_app (p q : List Nat) : toI (p ++ q) = toI p ++ toI q := by simp [toI]
theorem toI_one (x : Nat) : toI [x] = [(x : Int)] := rfl
theorem toI_set (p : List Nat) (i x : Nat) : (toI p).set i (x : Int) = toI (p.set i x) := by simp [toI, List.map_set]
theorem toI_rep (n x : Nat) : List.replicate n (x : Int) = toI (List.replicate n x) := by simp [toI]
theorem rd_toI (p : List Nat) (i : Nat) : rd (toI p) (i : Int) = ((p.getD i 0 : Nat) : Int) := by
  simp only [rd, toI, Int.toNat_natCast, List.getD_eq_getElem?_getD, List.getElem?_map]
  cases p[i]? <;> simp
def less (p : List Nat) (i : Nat) : Nat := p.getD i 0
theorem less_out {p : List Nat} {i : Nat} (h : p.length ≤ i) : less p i = 0 := by simp [less, List.getD_eq_getElem?_getD, h]
theorem rd_less (p : List Nat) (i : Nat) : rd (toI p) (i : Int) = ((less p i : Nat) : Int) := rd_toI p i
structure Good (p : List Nat) : Prop where
  pos : 1 ≤ p.length
  le : p.length ≤ 10
  lt : ∀ i, i < p.length → less p i < 2 ^ i
  tr : ∀ i, i < p.length → ∀ j, (less p i).testBit j = true → ∀ m, (less p j).testBit m = true → (less p i).testBit m = true
theorem Good.bit {p : List Nat} (g : Good p) {i j : Nat} (h : (less p i).testBit j = true) : j < i ∧ i < p.length := by
  have hi : i < p.length := by
    apply Nat.lt_of_not_le; intro h2; rw [less_out h2, Nat.zero_testBit] at h; cases h
  exact ⟨bit_lt (g.lt i hi) h, hi⟩
theorem Good.lt10 {p : List Nat} (g : Good p) (i : Nat) : less p i < 2 ^ p.length := by
  by_cases hi : i < p.length
  · exact Nat.lt_of_lt_of_le (g.lt i hi) (Nat.pow_le_pow_right (by decide) (by omega))
  · rw [less_out (by omega)]; exact Nat.two_pow_pos _
theorem Good.lt63 {p : List Nat} (g : Good p) (i : Nat) : less p i < 2 ^ 63 := M.lt63 (g.lt10 i) (by have := g.le; omega)
theorem Good.tr' {p : List Nat} (g : Good p) {i j m : Nat} (h1 : (less p i).testBit j = true) (h2 : (less p j).testBit m = true) : (less p i).testBit m = true := g.tr i (g.bit h1).2 j h1 m h2
def okAt (l : List Int) (i : Nat) : Bool := inB (l.getD i 0) 0 ((2 ^ i - 1 : Nat) : Int) && (List.range i).all fun j => !((l.getD i 0).toNat.testBit j) || sd (l.getD j 0).toNat (l.getD i 0).toNat == 0
theorem okAt_def (l : List Int) (i : Nat) : okAt l i = (inB (l.getD i 0) 0 ((2 ^ i - 1 : Nat) : Int) && (List.range i).all fun j => !((l.getD i 0).toNat.testBit j) || sd (l.getD j 0).toNat (l.getD i 0).toNat == 0) := rfl
def goodB (l : List Int) : Bool := inB (l.length : Int) 1 10 && (List.range' 0 l.length).all (okAt l)
theorem okAt_nat {l : List Int} {i : Nat} (h : okAt l i = true) : ∃ a : Nat, l.getD i 0 = (a : Int) ∧ a < 2 ^ i := by
  simp only [okAt, Bool.and_eq_true, inB_iff] at h
  have := Nat.two_pow_pos i
  exact ⟨(l.getD i 0).toNat, by omega, by omega⟩
theorem goodB_of {l : List Int} (h : goodB l = true) : ∃ p, l = toI p ∧ Good p := by
  simp only [goodB, Bool.and_eq_true, inB_iff, List.all_eq_true, List.mem_range'_1] at h
  obtain ⟨⟨h1, h2⟩, h3⟩ := h
  have hn : ∀ i, i < l.length → okAt l i = true := fun i hi => h3 i (by omega)
  have e : l = toI (l.map Int.toNat) := by
    apply List.ext_getElem (by simp)
    intro i hi1 hi2
    obtain ⟨a, ha, _⟩ := okAt_nat (hn i hi1)
    have hg : l.getD i 0 = l[i] := by simp [List.getD_eq_getElem?_getD, hi1]
    simp only [toI, List.getElem_map]; omega
  refine ⟨l.map Int.toNat, e, ?_⟩
  have hl : ∀ i, less (l.map Int.toNat) i = (l.getD i 0).toNat := by
    intro i
    simp only [less, List.getD_eq_getElem?_getD, List.getElem?_map]
    cases l[i]? <;> simp
  refine ⟨by simp; omega, by simp; omega, fun i hi => ?_, fun i hi j hj m hm => ?_⟩
  · obtain ⟨a, ha, hb⟩ := okAt_nat (hn i (by simpa using hi))
    rw [hl, ha]; simpa using hb
  · have hi' : i < l.length := by simpa using hi
    have ho := hn i hi'
    obtain ⟨a, ha, hb⟩ := okAt_nat ho
    simp only [okAt, Bool.and_eq_true, List.all_eq_true, List.mem_range, Bool.or_eq_true, Bool.not_eq_true', beq_iff_eq] at ho
    rw [hl] at hj hm ⊢
    have hji : j < i := by rw [ha] at hj; exact bit_lt hb (by simpa using hj)
    rcases ho.2 j hji with hz | hz
    · rw [hj] at hz; cases hz
    · exact sd_zero.mp hz m hm
def items (m : Nat) : List Nat := (List.range 10).filter fun e => m.testBit e
theorem mem_items {m e : Nat} : e ∈ items m ↔ e < 10 ∧ m.testBit e = true := by simp [items]
theorem items_len (m : Nat) : (items m).length ≤ 10 := by
  have := List.length_filter_le (fun e => m.testBit e) (List.range 10)
  simpa [items] using this
def foldBits {α : Type} (n s : Nat) (f : α → Nat → α) (a : α) : α := (List.range n).foldl (fun a e => if s.testBit e = true then f a e else a) a
theorem foldl_items {α : Type} (s : Nat) (f : α → Nat → α) (a : α) : (items s).foldl f a = foldBits 10 s f a := by
  unfold items foldBits; rw [List.foldl_filter]
theorem foldl_none {α : Type} (s : Nat) (f : α → Nat → α) : ∀ (l : List Nat) (a : α), (∀ e ∈ l, s.testBit e = false) → l.foldl (fun a e => if s.testBit e = true then f a e else a) a = a
  | [], _, _ => rfl
  | x :: l, a, h => by
    rw [List.foldl_cons, if_neg (by rw [h x List.mem_cons_self]; simp)]
    exact foldl_none s f l a fun e he => h e (List.mem_cons_of_mem _ he)
theorem foldBits_le {α : Type} {n m s : Nat} (f : α → Nat → α) (a : α) (h : s < 2 ^ n) (hm : n ≤ m) : foldBits m s f a = foldBits n s f a := by
  unfold foldBits
  obtain ⟨d, rfl⟩ := Nat.exists_eq_add_of_le hm
  rw [List.range_add, List.foldl_append]
  apply foldl_none
  intro e he
  simp only [List.mem_map, List.mem_range] at he
  obtain ⟨x, _, rfl⟩ := he
  exact Nat.testBit_lt_two_pow (Nat.lt_of_lt_of_le h (Nat.pow_le_pow_right (by decide) (by omega)))
theorem foldl_items_n {α : Type} {n s : Nat} (f : α → Nat → α) (a : α) (h : s < 2 ^ n) (hn : n ≤ 10) : (items s).foldl f a = foldBits n s f a := by
  rw [foldl_items, foldBits_le f a h hn]
theorem foldBits_succ {α : Type} (n s : Nat) (f : α → Nat → α) (a : α) : foldBits (n + 1) s f a = if s.testBit n = true then f (foldBits n s f a) n else foldBits n s f a := by
  unfold foldBits; rw [List.range_succ, List.foldl_append]; rfl
theorem foldBits_inv {α : Type} (n s : Nat) (f : α → Nat → α) (a : α) (I : α → Prop) (h0 : I a) (h : ∀ a e, I a → e < n → s.testBit e = true → I (f a e)) : I (foldBits n s f a) := by
  induction n with
  | zero => exact h0
  | succ n ih =>
    have ih := ih fun a e ha he hs => h a e ha (by omega) hs
    rw [foldBits_succ]
    split
    · exact h _ _ ih (by omega) (by assumption)
    · exact ih
def full (p : List Nat) : Nat := 2 ^ p.length - 1
theorem full_lt (p : List Nat) : full p < 2 ^ p.length := by have := Nat.two_pow_pos p.length; unfold full; omega
theorem full_bit (p : List Nat) (i : Nat) : (full p).testBit i = decide (i < p.length) := by unfold full; rw [Nat.testBit_two_pow_sub_one]
def close (p : List Nat) (s : Nat) : Nat := foldBits p.length s (fun o e => o ||| less p e) s
theorem close_lt {p : List Nat} (g : Good p) {s : Nat} (h : s < 2 ^ p.length) : close p s < 2 ^ p.length :=
  foldBits_inv _ _ _ _ (· < 2 ^ p.length) h (fun a e ha _ _ => Nat.or_lt_two_pow ha (g.lt10 e))
theorem foldOr_bit (p : List Nat) (s a i : Nat) : ∀ n, (foldBits n s (fun o e => o ||| less p e) a).testBit i = true ↔ (a.testBit i = true ∨ ∃ e, e < n ∧ s.testBit e = true ∧ (less p e).testBit i = true)
  | 0 => by simp [foldBits]
  | n + 1 => by
    rw [foldBits_succ]
    have ih := foldOr_bit p s a i n
    split
    · rename_i hs
      rw [Nat.testBit_or, Bool.or_eq_true, ih]
      constructor
      · rintro ((h | ⟨e, h1, h2, h3⟩) | h)
        · exact .inl h
        · exact .inr ⟨e, by omega, h2, h3⟩
        · exact .inr ⟨n, by omega, hs, h⟩
      · rintro (h | ⟨e, h1, h2, h3⟩)
        · exact .inl (.inl h)
        · by_cases he : e = n
          · subst he; exact .inr h3
          · exact .inl (.inr ⟨e, by omega, h2, h3⟩)
    · rename_i hs
      rw [ih]
      constructor
      · rintro (h | ⟨e, h1, h2, h3⟩)
        · exact .inl h
        · exact .inr ⟨e, by omega, h2, h3⟩
      · rintro (h | ⟨e, h1, h2, h3⟩)
        · exact .inl h
        · by_cases he : e = n
          · subst he; exact absurd h2 hs
          · exact .inr ⟨e, by omega, h2, h3⟩
theorem close_bit {p : List Nat} {s i : Nat} (h : s < 2 ^ p.length) : (close p s).testBit i = true ↔ (s.testBit i = true ∨ ∃ e, s.testBit e = true ∧ (less p e).testBit i = true) := by
  unfold close; rw [foldOr_bit]
  constructor
  · rintro (h1 | ⟨e, _, h1⟩)
    · exact .inl h1
    · exact .inr ⟨e, h1⟩
  · rintro (h1 | ⟨e, h1⟩)
    · exact .inl h1
    · exact .inr ⟨e, bit_lt h h1.1, h1⟩
def IsId (p : List Nat) (s : Nat) : Prop := s < 2 ^ p.length ∧ ∀ e, s.testBit e = true → ∀ i, (less p e).testBit i = true → s.testBit i = true
def idealB (p : List Nat) (s : Nat) : Bool := (List.range' 0 p.length).all fun e => !(s.testBit e) || sd (less p e) s == 0
theorem idealB_iff {p : List Nat} {s : Nat} (h : s < 2 ^ p.length) : idealB p s = true ↔ IsId p s := by
  simp only [idealB, IsId, List.all_eq_true, List.mem_range'_1, Bool.or_eq_true, Bool.not_eq_true', beq_iff_eq, sd_zero]
  constructor
  · intro h1
    refine ⟨h, fun e he => ?_⟩
    rcases h1 e ⟨by omega, by have := bit_lt h he; omega⟩ with h2 | h2
    · rw [he] at h2; cases h2
    · exact h2
  · rintro ⟨_, h1⟩ e _
    cases he : s.testBit e
    · exact .inl rfl
    · exact .inr (h1 e he)
end Go.Proofs.Ytldbabadbggleaa.M
end
section
namespace Go.Proofs.Ytldbabadbggleaa.L
open Go.RowKit Go.Proofs.YtldbabadbggleaaW.PrintWords Go.Proofs.YtldbabadbggleaaW.PrintLast Go.Proofs.YtldbabadbggleaaW.PrintMore
attribute [local go_sem] max2_int min2_int max_two min_two max_three min_three max_four min_four
set_option linter.unusedVariables false
set_option linter.unusedSimpArgs false
end Go.Proofs.Ytldbabadbggleaa.L
end
section
namespace Go.Proofs.Ytldbabadbggleaa.M
open Go.RowKit Go.Proofs.YtldbabadbggleaaW.PrintWords Go.Proofs.YtldbabadbggleaaW.PrintLast Go.Proofs.YtldbabadbggleaaW.PrintMore Go.Proofs.Ytldbabadbggleaa.L
theorem toIntS_l0 (l : List Int) (hl : l.length ≤ 35184372088832) : ∀ (d i : Nat) (acc : List Int), i + d = l.length → acc.length = l.length → Ev (fun k => laws_toIntS.l0 k l acc i) (acc.take i ++ l.drop i)
  | 0, i, acc, h, ha => by
    have h1 : ¬ ((i : Int) < (l.length : Int)) := by omega
    refine Ev.step (fun _ => rfl) (ev_neg h1 ?_)
    rw [List.take_of_length_le (by omega), List.drop_of_length_le (by omega), List.append_nil]
    exact Ev.now _
  | d + 1, i, acc, h, ha => by
    have h1 : (i : Int) < (l.length : Int) := by omega
    refine Ev.step (fun _ => rfl) (ev_pos h1 (ev_pos (by omega) (ev_pos (by omega) ?_)))
    rw [wrap_succ (by omega), rd_get (by omega : i < l.length), Int.toNat_natCast]
    have ih := toIntS_l0 l hl d (i + 1) (acc.set i l[i]) (by omega) (by simp [ha])
    have e : (acc.set i l[i]).take (i + 1) ++ l.drop (i + 1) = acc.take i ++ l.drop i := by
      rw [List.take_succ_eq_append_getElem (by simp; omega), List.getElem_set_self, List.drop_eq_getElem_cons (by omega : i < l.length)]
      simp [List.take_set_of_le]
    rw [← e]; exact ih
theorem toIntS_ev (l : List Int) (hl : l.length ≤ 35184372088832) : Ev (fun k => laws_toIntS.f k l) l := by
  have h := toIntS_l0 l hl l.length 0 (List.replicate l.length 0) (by omega) (by simp)
  exact ev_pos (by omega) (ev_pos (by simpa using hl) (by simpa using h))
theorem eqIntS_l0 (a b : List Int) (hl : a.length ≤ 9223372036854775806) (hab : a.length = b.length) : ∀ (d i : Nat), i + d = a.length → Ev (fun k => laws_eqIntS.l0 k a b i) (decide (a.drop i = b.drop i))
  | 0, i, h => by
    have h1 : ¬ ((i : Int) < (a.length : Int)) := by omega
    refine Ev.step (fun _ => rfl) (ev_neg h1 ?_)
    rw [List.drop_of_length_le (by omega), List.drop_of_length_le (by omega)]
    exact Ev.now _
  | d + 1, i, h => by
    have h1 : (i : Int) < (a.length : Int) := by omega
    refine Ev.step (fun _ => rfl) (ev_pos h1 (ev_pos (by omega) (ev_pos (by omega) ?_)))
    rw [wrap_succ (by omega), rd_get (by omega : i < a.length), rd_get (by omega : i < b.length)]
    rw [List.drop_eq_getElem_cons (by omega : i < a.length), List.drop_eq_getElem_cons (by omega : i < b.length)]
    refine ev_ite (fun e => ?_) (fun e => ?_)
    · rw [decide_eq_decide.mpr (show (a[i] :: a.drop (i + 1) = b[i] :: b.drop (i + 1)) ↔ a.drop (i + 1) = b.drop (i + 1) by rw [List.cons.injEq]; exact ⟨fun z => z.2, fun z => ⟨e, z⟩⟩)]
      exact eqIntS_l0 a b hl hab d (i + 1) (by omega)
    · rw [decide_eq_false (show ¬ (a[i] :: a.drop (i + 1) = b[i] :: b.drop (i + 1)) by rw [List.cons.injEq]; exact fun z => e z.1)]
      exact Ev.now false
theorem eqIntS_ev (a b : List Int) (hl : a.length ≤ 9223372036854775806) : Ev (fun k => laws_eqIntS.f k a b) (decide (a = b)) := by
  refine ev_ite (fun e => ?_) (fun e => ?_)
  · simpa using eqIntS_l0 a b hl (by omega) a.length 0 (by omega)
  · have : ¬ a = b := fun z => e (by rw [z])
    simpa [this] using Ev.now false
def marks (q : Nat) (n : Nat) : List Int := (List.range' q n).map Int.ofNat
theorem marks_len (q n : Nat) : (marks q n).length = n := by simp [marks]
theorem marks_get (q n i : Nat) (h : i < (marks q n).length) : (marks q n)[i] = ((q + i : Nat) : Int) := by simp [marks]
theorem markIntS_l0 (n : Nat) (hn : n ≤ 4611686018427387903) (q : Nat) (hq : q ≤ 4611686018427387903) : ∀ (d i : Nat) (acc : List Int), i + d = n → acc.length = n → (∀ j (hj : j < acc.length), j < i → acc[j] = ((q + j : Nat) : Int)) →
    Ev (fun k => laws_markIntS.l0 k acc ((q + i : Nat) : Int) i) (((q + n : Nat) : Int), marks q n)
  | 0, i, acc, h, ha, hm => by
    have h1 : ¬ ((i : Int) < (acc.length : Int)) := by omega
    refine Ev.step (fun _ => rfl) (ev_neg h1 ?_)
    have e : acc = marks q n := List.ext_getElem (by rw [ha, marks_len]) (fun j h1 h2 => by rw [hm j h1 (by omega), marks_get])
    have e2 : i = n := by omega
    rw [e, e2]; exact Ev.now _
  | d + 1, i, acc, h, ha, hm => by
    have h1 : (i : Int) < (acc.length : Int) := by omega
    refine Ev.step (fun _ => rfl) (ev_pos h1 (ev_pos (by omega) ?_))
    rw [wrap_succ (by omega), wrap_succ (by omega), Int.toNat_natCast]
    refine markIntS_l0 n hn q hq d (i + 1) (acc.set i ((q + i : Nat) : Int)) (by omega) (by simp [ha]) (fun j hj hji => ?_)
    by_cases e : j = i
    · subst e; simp
    · rw [List.getElem_set_ne (by omega)]; exact hm j _ (by omega)
theorem markIntS_ev (l : List Int) (q : Nat) (hl : l.length ≤ 4611686018427387903) (hq : q ≤ 4611686018427387903) : Ev (fun k => laws_markIntS.f k l (q : Int)) (((q + l.length : Nat) : Int), marks q l.length) :=
  markIntS_l0 l.length hl q hq l.length 0 l (by omega) rfl (fun j _ h => by omega)
theorem heldIntS_l0 (q n : Nat) (hn : n ≤ 4611686018427387903) (hq : q ≤ 4611686018427387903) : ∀ (d i : Nat), i + d = n → Ev (fun k => laws_heldIntS.l0 k (marks q n) ((q + i : Nat) : Int) i) ((q + n : Nat) : Int)
  | 0, i, h => by
    have hm := marks_len q n
    have h1 : ¬ ((i : Int) < ((marks q n).length : Int)) := by omega
    refine Ev.step (fun _ => rfl) (ev_neg h1 ?_)
    have e2 : i = n := by omega
    rw [e2]; exact Ev.now _
  | d + 1, i, h => by
    have hm := marks_len q n
    have h1 : (i : Int) < ((marks q n).length : Int) := by omega
    refine Ev.step (fun _ => rfl) (ev_pos h1 (ev_pos (by omega) (ev_pos ?_ ?_)))
    · rw [rd_get (by omega), marks_get]
    · rw [wrap_succ (by omega), wrap_succ (by omega)]
      exact heldIntS_l0 q n hn hq d (i + 1) (by omega)
theorem heldIntS_ev (q n : Nat) (hn : n ≤ 4611686018427387903) (hq : q ≤ 4611686018427387903) : Ev (fun k => laws_heldIntS.f k (marks q n) (q : Int)) ((q + n : Nat) : Int) :=
  heldIntS_l0 q n hn hq n 0 (by omega)
theorem l1In_eq (x lo hi : Int) : spec_l1In.f x lo hi = some (inB x lo hi) := by
  unfold spec_l1In.f inB
  by_cases h : lo ≤ x <;> simp [h]
theorem within_eq (x lo hi : Int) : impl_within.f x lo hi = some (inB x lo hi) := by
  unfold impl_within.f inB
  by_cases h : lo ≤ x <;> simp [h]
end Go.Proofs.Ytldbabadbggleaa.M
end
section
namespace Go.Proofs.Ytldbabadbggleaa.M
open Go.RowKit Go.Proofs.YtldbabadbggleaaW.PrintWords Go.Proofs.YtldbabadbggleaaW.PrintLast Go.Proofs.YtldbabadbggleaaW.PrintMore Go.Proofs.Ytldbabadbggleaa.L
set_option linter.unusedVariables false
theorem has_eq {s e : Nat} (hs : s < 2 ^ 63) (he : e ≤ 64) : impl_has.f (s : Int) (e : Int) = some (s.testBit e) := by
  unfold impl_has.f; rw [if_pos (by omega), bit_and hs he]
theorem poIn_eq {s e : Nat} (he : e ≤ 64) : spec_poIn.f (s : Int) (e : Int) = some (s.testBit e) := by
  unfold spec_poIn.f; rw [if_pos (by omega), bit_mod he]
theorem items_l0 (s : Nat) (hs : s < 2 ^ 63) : ∀ (d i : Nat) (acc : List Nat), i + d = 10 → acc.length ≤ i → Ev (fun k => impl_items.l0 k (s : Int) (toI acc) (i : Int)) (toI (acc ++ (List.range' i d).filter fun e => s.testBit e))
  | 0, i, acc, h, ha => by
    refine Ev.step (fun _ => impl_items.l0.eq_2 ..) (ev_neg (by omega) ?_)
    simpa using Ev.now _
  | d + 1, i, acc, h, ha => by
    refine Ev.step (fun _ => impl_items.l0.eq_2 ..) (ev_pos (by omega) (ev_call (has_eq hs (by omega)) ?_))
    rw [wrap_succ (by omega), List.range'_succ]
    refine ev_ite (fun e => ev_pos (by rw [toI_len]; omega) ?_) (fun e => ?_)
    · rw [← toI_one, ← toI_app, List.filter_cons_of_pos e]
      have := items_l0 s hs d (i + 1) (acc ++ [i]) (by omega) (by simp; omega)
      simpa using this
    · rw [List.filter_cons_of_neg e]
      exact items_l0 s hs d (i + 1) acc (by omega) (by omega)
theorem items_ev {s : Nat} (hs : s < 2 ^ 63) : Ev (fun k => impl_items.f k (s : Int)) (toI (items s)) := by
  have h := items_l0 s hs 10 0 [] (by omega) (by simp)
  rw [List.nil_append, ← List.range_eq_range'] at h
  exact h
theorem n_eq (l : List Int) : impl_Poset_n.f l = some (l.length : Int) := rfl
theorem items_all {m i : Nat} (hm : m < 2 ^ i) (hi : i ≤ 10) (g : Nat → Bool) : (items m).all g = (List.range i).all fun j => !(m.testBit j) || g j := by
  rw [Bool.eq_iff_iff]
  simp only [List.all_eq_true, mem_items, List.mem_range, Bool.or_eq_true, Bool.not_eq_true']
  constructor
  · intro h j hj
    cases hb : m.testBit j
    · exact .inl rfl
    · exact .inr (h j ⟨by omega, hb⟩)
  · rintro h j ⟨_, hb⟩
    rcases h j (bit_lt hm hb) with h2 | h2
    · rw [hb] at h2; cases h2
    · exact h2
theorem pow_small {i : Nat} (h : i ≤ 10) : 2 ^ i ≤ 1024 := by
  have := Nat.pow_le_pow_right (n := 2) (by decide) h
  simpa using this
theorem rd_getD (l : List Int) (i : Nat) : rd l (i : Int) = l.getD i 0 := by simp [rd]
theorem isPoset_l1 (l : List Int) (i m : Nat) (R : Bool) (hl : l.length ≤ 10) (hi : i < l.length) (hm : m < 2 ^ i) (ok : ∀ j, j < i → ∃ a : Nat, l.getD j 0 = (a : Int) ∧ a < 2 ^ j)
    (hR : Ev (fun k => impl_IsPoset.l0 k l (l.length : Int) ((i + 1 : Nat) : Int) l) R) : ∀ (d q : Nat), q + d = (items m).length →
    Ev (fun k => impl_IsPoset.l1 k (m : Int) l (l.length : Int) (i : Int) (toI (items m)) ((toI (items m)).length : Int) (q : Int) l) (((items m).drop q).all (fun j => sd (l.getD j 0).toNat m == 0) && R)
  | 0, q, h => by
    refine Ev.step (fun _ => impl_IsPoset.l1.eq_2 ..) (ev_neg (by rw [toI_len]; omega) ?_)
    rw [List.drop_of_length_le (by omega), List.all_nil, Bool.true_and, wrap_succ (by omega)]
    exact hR
  | d + 1, q, h => by
    have hq : q < (items m).length := by omega
    have hj : (items m)[q] ∈ items m := List.getElem_mem hq
    obtain ⟨_, hb⟩ := mem_items.mp hj
    have hji := bit_lt hm hb
    obtain ⟨a, ha, ha2⟩ := ok _ hji
    have e1 : rd (toI (items m)) (q : Int) = (((items m)[q] : Nat) : Int) := by rw [rd_toI]; simp [List.getD_eq_getElem?_getD, hq]
    have hlen := items_len m
    have hp1 := pow_small (show i ≤ 10 by omega)
    have hp2 := pow_small (show (items m)[q] ≤ 10 by omega)
    refine Ev.step (fun _ => impl_IsPoset.l1.eq_2 ..) ?_
    rw [e1]
    refine ev_pos (by rw [toI_len]; omega) (ev_pos (by omega) (ev_pos (by rw [toI_len]; omega) (ev_pos (by omega) (ev_pos (by omega) ?_))))
    rw [rd_getD, ha, bits_andNot (lt63 ha2 (by omega)) (lt63 hm (by omega)), wrap_succ (by omega), List.drop_eq_getElem_cons hq, List.all_cons, ha, Int.toNat_natCast]
    refine ev_ite (fun e => ?_) (fun e => ?_)
    · have e' : sd a m = 0 := by omega
      rw [e', beq_self_eq_true, Bool.true_and]
      exact isPoset_l1 l i m R hl hi hm ok hR d (q + 1) (by omega)
    · have e' : (sd a m == 0) = false := by rw [beq_eq_false_iff_ne]; omega
      rw [e', Bool.false_and, Bool.false_and]
      exact Ev.now _
theorem isPoset_l0 (l : List Int) (hl : l.length ≤ 10) : ∀ (d i : Nat), i + d = l.length → (∀ j, j < i → ∃ a : Nat, l.getD j 0 = (a : Int) ∧ a < 2 ^ j) →
    Ev (fun k => impl_IsPoset.l0 k l (l.length : Int) (i : Int) l) ((List.range' i d).all (okAt l))
  | 0, i, h, ok => by
    refine Ev.step (fun _ => impl_IsPoset.l0.eq_2 ..) (ev_neg (by omega) ?_)
    exact Ev.now _
  | d + 1, i, h, ok => by
    have hp1 := pow_small (show i ≤ 10 by omega)
    have hpos := Nat.two_pow_pos i
    refine Ev.step (fun _ => impl_IsPoset.l0.eq_2 ..) (ev_pos (by omega) (ev_pos (by omega) (ev_pos (by omega) (ev_call (within_eq _ _ _) ?_))))
    rw [rd_getD, shl_one' (by omega), List.range'_succ, List.all_cons, okAt_def l i]
    refine ev_ite (fun e => ?_) (fun e => ?_)
    · have b := inB_iff.mp e
      obtain ⟨m, hm⟩ : ∃ m : Nat, l.getD i 0 = (m : Int) := ⟨(l.getD i 0).toNat, by omega⟩
      rw [e, Bool.true_and, hm]
      have hm2 : m < 2 ^ i := by omega
      refine Ev.bind (items_ev (lt63 hm2 (by omega))) ?_
      have hnx := isPoset_l0 l hl d (i + 1) (by omega) (fun j hj => by
        by_cases hji : j = i
        · subst hji; exact ⟨m, hm, hm2⟩
        · exact ok j (by omega))
      have := isPoset_l1 l i m _ hl (by omega) hm2 ok hnx (items m).length 0 (by omega)
      rw [List.drop_zero, items_all hm2 (by omega)] at this
      simpa using this
    · rw [Bool.eq_false_iff.mpr e, Bool.false_and, Bool.false_and]
      exact Ev.now _
theorem isPoset_ev (l : List Int) : Ev (fun k => impl_IsPoset.f k l) (goodB l) := by
  refine ev_call (n_eq l) (ev_call (within_eq _ _ _) ?_)
  unfold goodB
  refine ev_ite (fun e => ?_) (fun e => ?_)
  · have b := inB_iff.mp e
    rw [e, Bool.true_and]
    exact isPoset_l0 l (by omega) l.length 0 (by omega) (fun j hj => by omega)
  · rw [Bool.eq_false_iff.mpr e, Bool.false_and]; exact Ev.now _
theorem poGood_l1 (l : List Int) (i m : Nat) (R : Bool) (hl : l.length ≤ 10) (hi : i < l.length) (hm : m < 2 ^ i) (ok : ∀ j, j < i → ∃ a : Nat, l.getD j 0 = (a : Int) ∧ a < 2 ^ j)
    (hR : Ev (fun k => spec_poGood.l0 k l (l.length : Int) ((i + 1 : Nat) : Int) l) R) : ∀ (d j : Nat), j + d = i →
    Ev (fun k => spec_poGood.l1 k (i : Int) (m : Int) (j : Int) l (l.length : Int) (i : Int) l) ((List.range' j d).all (fun j => !(m.testBit j) || sd (l.getD j 0).toNat m == 0) && R)
  | 0, j, h => by
    refine Ev.step (fun _ => spec_poGood.l1.eq_2 ..) (ev_neg (by omega) ?_)
    rw [wrap_succ (by omega)]
    simpa using hR
  | d + 1, j, h => by
    obtain ⟨a, ha, ha2⟩ := ok j (by omega)
    have hp1 := pow_small (show i ≤ 10 by omega)
    have hp2 := pow_small (show j ≤ 10 by omega)
    have ih := poGood_l1 l i m R hl hi hm ok hR d (j + 1) (by omega)
    refine Ev.step (fun _ => spec_poGood.l1.eq_2 ..) (ev_pos (by omega) (ev_pos (by omega) ?_))
    rw [wrap_succ (by omega), List.range'_succ, List.all_cons, rd_getD, ha, bits_andNot (lt63 ha2 (by omega)) (lt63 hm (by omega)), Int.toNat_natCast]
    refine ev_ite (fun e => ?_) (fun e => ?_)
    · rw [bit_mod' (by omega)] at e
      rw [e, Bool.not_true, Bool.false_or]
      refine ev_pos (by omega) (ev_ite (fun e => ?_) (fun e => ?_))
      · have e' : sd a m = 0 := by omega
        rw [e', beq_self_eq_true, Bool.true_and]; exact ih
      · have e' : (sd a m == 0) = false := by rw [beq_eq_false_iff_ne]; omega
        rw [e', Bool.false_and, Bool.false_and]; exact Ev.now _
    · rw [bit_mod' (by omega)] at e
      rw [Bool.eq_false_iff.mpr e, Bool.not_false, Bool.true_or, Bool.true_and]; exact ih
theorem poGood_l0 (l : List Int) (hl : l.length ≤ 10) : ∀ (d i : Nat), i + d = l.length → (∀ j, j < i → ∃ a : Nat, l.getD j 0 = (a : Int) ∧ a < 2 ^ j) →
    Ev (fun k => spec_poGood.l0 k l (l.length : Int) (i : Int) l) ((List.range' i d).all (okAt l))
  | 0, i, h, ok => by
    refine Ev.step (fun _ => spec_poGood.l0.eq_2 ..) (ev_neg (by omega) ?_)
    exact Ev.now _
  | d + 1, i, h, ok => by
    have hp1 := pow_small (show i ≤ 10 by omega)
    have hpos := Nat.two_pow_pos i
    refine Ev.step (fun _ => spec_poGood.l0.eq_2 ..) (ev_pos (by omega) (ev_pos (by omega) (ev_pos (by omega) (ev_call (l1In_eq _ _ _) ?_))))
    rw [rd_getD, shl_one' (by omega), List.range'_succ, List.all_cons, okAt_def l i]
    refine ev_ite (fun e => ?_) (fun e => ?_)
    · have b := inB_iff.mp e
      obtain ⟨m, hm⟩ : ∃ m : Nat, l.getD i 0 = (m : Int) := ⟨(l.getD i 0).toNat, by omega⟩
      rw [e, Bool.true_and, hm]
      have hm2 : m < 2 ^ i := by omega
      have hnx := poGood_l0 l hl d (i + 1) (by omega) (fun j hj => by
        by_cases hji : j = i
        · subst hji; exact ⟨m, hm, hm2⟩
        · exact ok j (by omega))
      have := poGood_l1 l i m _ hl (by omega) hm2 ok hnx i 0 (by omega)
      simpa [List.range_eq_range'] using this
    · rw [Bool.eq_false_iff.mpr e, Bool.false_and, Bool.false_and]
      exact Ev.now _
theorem poGood_ev (l : List Int) : Ev (fun k => spec_poGood.f k l) (goodB l) := by
  refine ev_call (l1In_eq _ _ _) ?_
  unfold goodB
  refine ev_ite (fun e => ?_) (fun e => ?_)
  · have b := inB_iff.mp e
    rw [e, Bool.true_and]
    exact poGood_l0 l (by omega) l.length 0 (by omega) (fun j hj => by omega)
  · rw [Bool.eq_false_iff.mpr e, Bool.false_and]; exact Ev.now _
def tg (p : List Nat) (s e : Nat) : Nat := if idealB p (s ^^^ 2 ^ e) = true then s ^^^ 2 ^ e else s
theorem pow_lt' {p : List Nat} {e : Nat} (h : e < p.length) : 2 ^ e < 2 ^ p.length := Nat.pow_lt_pow_right (by decide) h
theorem tg_id {p : List Nat} {s e : Nat} (hs : IsId p s) (h : e < p.length) : IsId p (tg p s e) := by
  unfold tg; split
  · rename_i h2; exact (idealB_iff (Nat.xor_lt_two_pow hs.1 (pow_lt' h))).mp h2
  · exact hs
theorem xor_bit (s e i : Nat) : (s ^^^ 2 ^ e).testBit i = (s.testBit i ^^ decide (e = i)) := by rw [Nat.testBit_xor, Nat.testBit_two_pow]
theorem xor_ne {s e i : Nat} (h : e ≠ i) : (s ^^^ 2 ^ e).testBit i = s.testBit i := by rw [xor_bit]; simp [h]
theorem xor_eq (s e : Nat) : (s ^^^ 2 ^ e).testBit e = !s.testBit e := by rw [xor_bit]; simp
def Can (p : List Nat) (s e : Nat) : Prop := (s.testBit e = true → ∀ f, s.testBit f = true → (less p f).testBit e = false) ∧ (s.testBit e = false → ∀ f, (less p e).testBit f = true → s.testBit f = true)
theorem can_iff {p : List Nat} (g : Good p) {s e : Nat} (hs : IsId p s) (he : e < p.length) : idealB p (s ^^^ 2 ^ e) = true ↔ Can p s e := by
  rw [idealB_iff (Nat.xor_lt_two_pow hs.1 (pow_lt' he))]
  constructor
  · rintro ⟨_, h⟩
    refine ⟨fun h1 f hf => ?_, fun h1 f hf => ?_⟩
    · apply Bool.eq_false_iff.mpr
      intro hc
      have b := g.bit hc
      have := h f (by rw [xor_ne (by omega)]; exact hf) e hc
      rw [xor_eq, h1] at this; cases this
    · have b := g.bit hf
      have := h e (by rw [xor_eq, h1]; rfl) f hf
      rwa [xor_ne (by omega)] at this
  · rintro ⟨h1, h2⟩
    refine ⟨Nat.xor_lt_two_pow hs.1 (pow_lt' he), fun f hf i hi => ?_⟩
    have b := g.bit hi
    by_cases c : e = f
    · subst c
      rw [xor_eq, Bool.not_eq_true'] at hf
      rw [xor_ne (by omega)]
      exact h2 hf i hi
    · rw [xor_ne c] at hf
      have hsi := hs.2 f hf i hi
      by_cases c2 : e = i
      · subst c2
        rw [h1 hsi f hf] at hi; cases hi
      · rw [xor_ne c2]; exact hsi
theorem tg_ne {p : List Nat} {s e i : Nat} (h : e ≠ i) : (tg p s e).testBit i = s.testBit i := by
  unfold tg; split
  · exact xor_ne h
  · rfl
theorem tg_eq {p : List Nat} (g : Good p) {s e : Nat} (hs : IsId p s) (he : e < p.length) : (tg p s e).testBit e = true ↔ (s.testBit e = true ∧ ∃ f, s.testBit f = true ∧ (less p f).testBit e = true) ∨ (s.testBit e = false ∧ ∀ f, (less p e).testBit f = true → s.testBit f = true) := by
  have hc := can_iff g hs he
  unfold tg
  cases hb : s.testBit e
  · by_cases c : idealB p (s ^^^ 2 ^ e) = true
    · rw [if_pos c, xor_eq, hb]
      exact ⟨fun _ => .inr ⟨rfl, (hc.mp c).2 hb⟩, fun _ => rfl⟩
    · rw [if_neg c, hb]
      refine ⟨fun h => (by cases h), fun h => ?_⟩
      rcases h with h | h
      · cases h.1
      · exact absurd (hc.mpr ⟨fun h1 => (by rw [hb] at h1; cases h1), fun _ => h.2⟩) c
  · by_cases c : idealB p (s ^^^ 2 ^ e) = true
    · rw [if_pos c, xor_eq, hb]
      refine ⟨fun h => (by cases h), fun h => ?_⟩
      rcases h with ⟨_, f, hf, hl⟩ | h
      · rw [(hc.mp c).1 hb f hf] at hl; cases hl
      · cases h.1
    · rw [if_neg c, hb]
      refine ⟨fun _ => .inl ⟨rfl, ?_⟩, fun _ => rfl⟩
      apply Classical.byContradiction
      intro hn
      refine c (hc.mpr ⟨fun _ f hf => ?_, fun h => by rw [hb] at h; cases h⟩)
      apply Bool.eq_false_iff.mpr
      intro hl
      exact hn ⟨f, hf, hl⟩
def bot (p : List Nat) (u : Nat) : Nat := foldBits p.length u (fun o e => if less p e &&& u = 0 then o ||| 2 ^ e else o) 0
theorem and_zero {a b : Nat} : a &&& b = 0 ↔ ∀ i, a.testBit i = true → b.testBit i = false := by
  constructor
  · intro h i hi
    have : (a &&& b).testBit i = false := by rw [h, Nat.zero_testBit]
    rw [Nat.testBit_and, hi, Bool.true_and] at this; exact this
  · intro h
    apply Nat.eq_of_testBit_eq
    intro i
    rw [Nat.testBit_and, Nat.zero_testBit]
    cases ha : a.testBit i
    · rfl
    · rw [h i ha]; rfl
theorem foldPut_bit (c : Nat → Prop) [DecidablePred c] (u a i : Nat) : ∀ n, (foldBits n u (fun o e => if c e then o ||| 2 ^ e else o) a).testBit i = true ↔ (a.testBit i = true ∨ (i < n ∧ u.testBit i = true ∧ c i))
  | 0 => by simp [foldBits]
  | n + 1 => by
    rw [foldBits_succ]
    have ih := foldPut_bit c u a i n
    by_cases hu : u.testBit n = true
    · rw [if_pos hu]
      by_cases hc : c n
      · rw [if_pos hc, Nat.testBit_or, Bool.or_eq_true, ih, Nat.testBit_two_pow, decide_eq_true_eq]
        constructor
        · rintro ((h | ⟨h1, h2⟩) | h)
          · exact .inl h
          · exact .inr ⟨by omega, h2⟩
          · subst h; exact .inr ⟨by omega, hu, hc⟩
        · rintro (h | ⟨h1, h2⟩)
          · exact .inl (.inl h)
          · by_cases e : n = i
            · exact .inr e
            · exact .inl (.inr ⟨by omega, h2⟩)
      · rw [if_neg hc, ih]
        refine or_congr_right ⟨fun h => ⟨by omega, h.2⟩, fun h => ⟨?_, h.2⟩⟩
        have : i ≠ n := fun e => by subst e; exact hc h.2.2
        omega
    · rw [if_neg hu, ih]
      refine or_congr_right ⟨fun h => ⟨by omega, h.2⟩, fun h => ⟨?_, h.2⟩⟩
      have : i ≠ n := fun e => by subst e; exact hu h.2.1
      omega
theorem bot_bit {p : List Nat} {u : Nat} (hu : u < 2 ^ p.length) (i : Nat) : (bot p u).testBit i = true ↔ u.testBit i = true ∧ ∀ j, (less p i).testBit j = true → u.testBit j = false := by
  unfold bot
  rw [foldPut_bit (fun e => less p e &&& u = 0), Nat.zero_testBit]
  constructor
  · rintro (h | ⟨h1, h2, h3⟩)
    · cases h
    · exact ⟨h2, and_zero.mp h3⟩
  · rintro ⟨h1, h2⟩
    exact .inr ⟨bit_lt hu h1, h1, and_zero.mpr h2⟩
theorem put_lt {n : Nat} (c : Nat → Prop) [DecidablePred c] (u : Nat) : foldBits n u (fun o e => if c e then o ||| 2 ^ e else o) 0 < 2 ^ n :=
  foldBits_inv _ _ _ _ (· < 2 ^ n) (Nat.two_pow_pos _) (fun a e ha he _ => by
    split
    · exact Nat.or_lt_two_pow ha (Nat.pow_lt_pow_right (by decide) he)
    · exact ha)
theorem bot_lt {p : List Nat} (u : Nat) : bot p u < 2 ^ p.length := put_lt _ u
def row (p : List Nat) (s : Nat) : Nat := close p (bot p (sd (full p) s))
theorem co_lt {p : List Nat} (s : Nat) : sd (full p) s < 2 ^ p.length := sd_lt s (full_lt p)
theorem co_bit {p : List Nat} {s i : Nat} : (sd (full p) s).testBit i = true ↔ i < p.length ∧ s.testBit i = false := by
  rw [sd_bit, full_bit, Bool.and_eq_true, decide_eq_true_eq, Bool.not_eq_true']
theorem row_lt {p : List Nat} (g : Good p) (s : Nat) : row p s < 2 ^ p.length := close_lt g (bot_lt _)
theorem row_bit {p : List Nat} (g : Good p) {s : Nat} (hs : IsId p s) (i : Nat) : (row p s).testBit i = true ↔ ∃ e, e < p.length ∧ s.testBit e = false ∧ (∀ j, (less p e).testBit j = true → s.testBit j = true) ∧ (e = i ∨ (less p e).testBit i = true) := by
  unfold row
  rw [close_bit (bot_lt _)]
  have hb : ∀ e, (bot p (sd (full p) s)).testBit e = true ↔ e < p.length ∧ s.testBit e = false ∧ (∀ j, (less p e).testBit j = true → s.testBit j = true) := by
    intro e
    rw [bot_bit (co_lt s), co_bit, and_assoc]
    refine and_congr_right fun h1 => and_congr_right fun h2 => forall_congr' fun j => forall_congr' fun hj => ?_
    have b := g.bit hj
    rw [← Bool.not_eq_true, co_bit, not_and, Bool.not_eq_false]
    exact ⟨fun h => h (by omega), fun h _ => h⟩
  constructor
  · rintro (h | ⟨e, h, hl⟩)
    · have := (hb i).mp h
      exact ⟨i, this.1, this.2.1, this.2.2, .inl rfl⟩
    · have := (hb e).mp h
      exact ⟨e, this.1, this.2.1, this.2.2, .inr hl⟩
  · rintro ⟨e, h1, h2, h3, h4⟩
    rcases h4 with h4 | h4
    · subst h4; exact .inl ((hb e).mpr ⟨h1, h2, h3⟩)
    · exact .inr ⟨e, (hb e).mpr ⟨h1, h2, h3⟩, h4⟩
theorem row_id {p : List Nat} (g : Good p) {s : Nat} (hs : IsId p s) : IsId p (row p s) := by
  refine ⟨row_lt g s, fun e he i hi => ?_⟩
  rw [row_bit g hs] at he ⊢
  obtain ⟨f, h1, h2, h3, h4⟩ := he
  refine ⟨f, h1, h2, h3, .inr ?_⟩
  rcases h4 with h4 | h4
  · rw [h4]; exact hi
  · exact g.tr' h4 hi
structure Mid (p : List Nat) (s t : Nat) (P : Nat → Prop) (x : Nat) : Prop where
  id : IsId p x
  on : ∀ i, i < p.length → P i → x.testBit i = t.testBit i
  off : ∀ i, i < p.length → ¬ P i → x.testBit i = s.testBit i
theorem Mid.step {p : List Nat} {s t x i : Nat} {P Q : Nat → Prop} (I : Mid p s t P x) (hi : i < p.length) (hQ : ∀ k, k < p.length → (Q k ↔ P k ∨ k = i)) (h : (tg p x i).testBit i = t.testBit i) : Mid p s t Q (tg p x i) := by
  refine ⟨tg_id I.id hi, fun k hk hq => ?_, fun k hk hq => ?_⟩
  · by_cases c : i = k
    · subst c; exact h
    · rw [tg_ne c]
      rcases (hQ k hk).mp hq with h | h
      · exact I.on k hk h
      · exact absurd h.symm c
  · rw [tg_ne (fun c => hq ((hQ k hk).mpr (.inr c.symm)))]
    exact I.off k hk fun h => hq ((hQ k hk).mpr (.inl h))
theorem Mid.all {p : List Nat} {s t x : Nat} {P : Nat → Prop} (I : Mid p s t P x) (ht : t < 2 ^ p.length) (h : ∀ i, i < p.length → P i) : x = t := by
  apply Nat.eq_of_testBit_eq
  intro i
  by_cases hi : i < p.length
  · exact I.on i hi (h i hi)
  · have big : ∀ y, y < 2 ^ p.length → y.testBit i = false := fun y hy => Nat.testBit_lt_two_pow (Nat.lt_of_lt_of_le hy (Nat.pow_le_pow_right (by decide) (by omega)))
    rw [big x I.id.1, big t ht]
theorem Mid.none {p : List Nat} {s : Nat} (t : Nat) (hs : IsId p s) {P : Nat → Prop} (h : ∀ i, i < p.length → ¬ P i) : Mid p s t P s :=
  ⟨hs, fun i hi hp => absurd hp (h i hi), fun _ _ _ => rfl⟩
theorem Mid.row {p : List Nat} (g : Good p) {s x i : Nat} {P Q : Nat → Prop} (hs : IsId p s) (I : Mid p s (row p s) P x) (hi : i < p.length) (hP : ¬ P i) (up : ∀ k, (less p k).testBit i = true → P k)
    (dn : ∀ j, (less p i).testBit j = true → ¬ P j) (hQ : ∀ k, k < p.length → (Q k ↔ P k ∨ k = i)) : Mid p s (M.row p s) Q (tg p x i) := by
  refine I.step hi hQ ?_
  have xi := I.off i hi hP
  rw [Bool.eq_iff_iff, tg_eq g I.id hi, xi]
  cases hb : s.testBit i
  · constructor
    · rintro (h | ⟨_, h⟩)
      · cases h.1
      · rw [row_bit g hs]
        refine ⟨i, hi, hb, fun j hj => ?_, .inl rfl⟩
        have b := g.bit hj
        rw [← I.off j (by omega) (dn j hj)]; exact h j hj
    · intro h
      rw [row_bit g hs] at h
      obtain ⟨e, h1, h2, h3, h4⟩ := h
      refine .inr ⟨rfl, fun f hf => ?_⟩
      have b := g.bit hf
      rw [I.off f (by omega) (dn f hf)]
      rcases h4 with h4 | h4
      · rw [h4] at h3; exact h3 f hf
      · have := h3 i h4
        rw [hb] at this; cases this
  · constructor
    · rintro (⟨_, f, hf, hl⟩ | h)
      · have b := g.bit hl
        have := I.on f b.2 (up f hl)
        rw [hf] at this
        exact (row_id g hs).2 f this.symm i hl
      · cases h.1
    · intro h
      rw [row_bit g hs] at h
      obtain ⟨e, h1, h2, h3, h4⟩ := h
      rcases h4 with h4 | h4
      · subst h4; rw [hb] at h2; cases h2
      · refine .inl ⟨rfl, e, ?_, h4⟩
        rw [I.on e h1 (up e h4), row_bit g hs]
        exact ⟨e, h1, h2, h3, .inl rfl⟩
theorem ev_all {α β : Type} {f : Nat → α → Option β} {r : α → β} : ∀ l : List α, (∀ x ∈ l, Ev (fun k => f k x) (r x)) → ∃ K, ∀ k, K ≤ k → ∀ x ∈ l, f k x = some (r x)
  | [], _ => ⟨0, fun _ _ x hx => absurd hx (by simp)⟩
  | a :: l, h => by
    obtain ⟨K, hK⟩ := ev_all l fun x hx => h x (List.mem_cons_of_mem _ hx)
    obtain ⟨K', hK'⟩ := h a List.mem_cons_self
    refine ⟨max K K', fun k hk x hx => ?_⟩
    rcases List.mem_cons.mp hx with e | hx
    · subst e; exact hK' k (by omega)
    · exact hK k (by omega) x hx
structure Arr (p y : List Nat) (b : Nat) : Prop where
  len : y.length = p.length
  hi : ∀ i, y.getD i 0 ≤ b
  up : ∀ i j, (less p i).testBit j = true → y.getD j 0 ≤ y.getD i 0
def lowN (p y : List Nat) (e : Nat) : Nat := foldBits p.length (less p e) (fun o j => max o (y.getD j 0)) 0
def highN (p y : List Nat) (b e : Nat) : Nat := (List.range' 0 p.length).foldl (fun o i => if (less p i).testBit e = true then min o (y.getD i 0) else o) b
theorem mx_nat (a b : Nat) : mx (a : Int) (b : Int) = ((max a b : Nat) : Int) := by unfold mx; split <;> omega
theorem l1Most_nat (a b : Nat) : spec_l1Most.f (a : Int) (b : Int) = some ((max a b : Nat) : Int) := by unfold spec_l1Most.f; split <;> (congr 1; omega)
theorem l1Own_eq (l : List Int) (h : l.length < 17592186044416) : spec_l1Own.f l = some l := by
  unfold spec_l1Own.f; rw [Option.bind_some, if_pos (by simpa using h)]; rfl
theorem foldMax_le {s m : Nat} (f : Nat → Nat) : ∀ (n a : Nat), foldBits n s (fun o j => max o (f j)) a ≤ m ↔ (a ≤ m ∧ ∀ j, j < n → s.testBit j = true → f j ≤ m)
  | 0, a => by simp [foldBits]
  | n + 1, a => by
    rw [foldBits_succ]
    have ih := foldMax_le (s := s) (m := m) f n a
    split
    · rename_i hs
      rw [Nat.max_le, ih]
      constructor
      · rintro ⟨⟨h1, h2⟩, h3⟩
        refine ⟨h1, fun j hj hb => ?_⟩
        by_cases e : j = n
        · subst e; exact h3
        · exact h2 j (by omega) hb
      · rintro ⟨h1, h2⟩
        exact ⟨⟨h1, fun j hj hb => h2 j (by omega) hb⟩, h2 n (by omega) hs⟩
    · rename_i hs
      rw [ih]
      constructor
      · rintro ⟨h1, h2⟩
        refine ⟨h1, fun j hj hb => ?_⟩
        by_cases e : j = n
        · subst e; exact absurd hb hs
        · exact h2 j (by omega) hb
      · rintro ⟨h1, h2⟩
        exact ⟨h1, fun j hj hb => h2 j (by omega) hb⟩
theorem foldMin_le {m : Nat} (c : Nat → Bool) (f : Nat → Nat) : ∀ (l : List Nat) (a : Nat), m ≤ l.foldl (fun o i => if c i = true then min o (f i) else o) a ↔ (m ≤ a ∧ ∀ i, i ∈ l → c i = true → m ≤ f i)
  | [], a => by simp
  | x :: l, a => by
    rw [List.foldl_cons, foldMin_le c f l]
    by_cases h : c x = true
    · rw [if_pos h, Nat.le_min]
      simp only [List.mem_cons]
      constructor
      · rintro ⟨⟨h1, h2⟩, h3⟩
        refine ⟨h1, fun i hi hc => ?_⟩
        rcases hi with rfl | hi
        · exact h2
        · exact h3 i hi hc
      · rintro ⟨h1, h2⟩
        exact ⟨⟨h1, h2 x (.inl rfl) h⟩, fun i hi hc => h2 i (.inr hi) hc⟩
    · rw [if_neg h]
      simp only [List.mem_cons]
      constructor
      · rintro ⟨h1, h2⟩
        refine ⟨h1, fun i hi hc => ?_⟩
        rcases hi with rfl | hi
        · exact absurd hc h
        · exact h2 i hi hc
      · rintro ⟨h1, h2⟩
        exact ⟨h1, fun i hi hc => h2 i (.inr hi) hc⟩
theorem lowN_le {p y : List Nat} (g : Good p) {e m : Nat} : lowN p y e ≤ m ↔ ∀ j, (less p e).testBit j = true → y.getD j 0 ≤ m := by
  unfold lowN; rw [foldMax_le]
  constructor
  · rintro ⟨_, h⟩ j hb; exact h j (by have := g.bit hb; omega) hb
  · intro h; exact ⟨by omega, fun j _ hb => h j hb⟩
theorem le_highN {p y : List Nat} (g : Good p) {b e m : Nat} : m ≤ highN p y b e ↔ (m ≤ b ∧ ∀ i, (less p i).testBit e = true → m ≤ y.getD i 0) := by
  unfold highN; rw [foldMin_le (fun i => (less p i).testBit e)]
  constructor
  · rintro ⟨h1, h⟩; exact ⟨h1, fun i hb => h i (by have := g.bit hb; simp; omega) hb⟩
  · rintro ⟨h1, h⟩; exact ⟨h1, fun i _ hb => h i hb⟩
theorem low_le {p y : List Nat} {b : Nat} (g : Good p) (a : Arr p y b) (e : Nat) : lowN p y e ≤ y.getD e 0 := (lowN_le g).mpr fun j hb => a.up e j hb
theorem le_high {p y : List Nat} {b : Nat} (g : Good p) (a : Arr p y b) (e : Nat) : y.getD e 0 ≤ highN p y b e := (le_highN g).mpr ⟨a.hi e, fun i hb => a.up i e hb⟩
theorem high_le_b {p y : List Nat} (g : Good p) (b e : Nat) : highN p y b e ≤ b := ((le_highN g).mp (Nat.le_refl _)).1
def tgN (p : List Nat) (b : Nat) (y : List Nat) (e : Nat) : List Nat := y.set e (lowN p y e + highN p y b e - y.getD e 0)
theorem getD_set (y : List Nat) (e v i : Nat) : (y.set e v).getD i 0 = if i = e ∧ e < y.length then v else y.getD i 0 := by
  simp only [List.getD_eq_getElem?_getD, List.getElem?_set]
  by_cases h : e = i
  · subst h
    by_cases h2 : e < y.length
    · simp [h2]
    · simp [h2]
  · simp [h, Ne.symm h]
theorem tgN_len (p : List Nat) (b : Nat) (y : List Nat) (e : Nat) : (tgN p b y e).length = y.length := by simp [tgN]
theorem tgN_get (p : List Nat) (b : Nat) (y : List Nat) (e i : Nat) : (tgN p b y e).getD i 0 = if i = e ∧ e < y.length then lowN p y e + highN p y b e - y.getD e 0 else y.getD i 0 := getD_set ..
theorem Arr.tg {p y : List Nat} {b : Nat} (g : Good p) (a : Arr p y b) (e : Nat) : Arr p (tgN p b y e) b := by
  have h1 := low_le g a e
  have h2 := le_high g a e
  have h3 := high_le_b (y := y) g b e
  refine ⟨by rw [tgN_len]; exact a.len, fun i => ?_, fun i j hb => ?_⟩
  · rw [tgN_get]; split
    · omega
    · exact a.hi i
  · have hj := g.bit hb
    have hu := a.up i j hb
    rw [tgN_get, tgN_get]
    by_cases c1 : j = e ∧ e < y.length
    · rw [if_pos c1, if_neg (by omega)]
      have := ((le_highN (y := y) (b := b) g (e := e)).mp (Nat.le_refl _)).2 i (by rw [← c1.1]; exact hb)
      omega
    · rw [if_neg c1]
      by_cases c2 : i = e ∧ e < y.length
      · rw [if_pos c2]
        have := (lowN_le (y := y) g (e := e)).mp (Nat.le_refl _) j (by rw [← c2.1]; exact hb)
        omega
      · rw [if_neg c2]; exact hu
theorem foldl_congr {α β : Type} {f g : α → β → α} : ∀ (l : List β) (a : α), (∀ a x, x ∈ l → f a x = g a x) → l.foldl f a = l.foldl g a
  | [], _, _ => rfl
  | x :: l, a, h => by
    rw [List.foldl_cons, List.foldl_cons, h a x List.mem_cons_self]
    exact foldl_congr l _ fun a y hy => h a y (List.mem_cons_of_mem _ hy)
end Go.Proofs.Ytldbabadbggleaa.M
end
section
namespace Go.Proofs.Ytldbabadbggleaa.M
open Go.RowKit Go.Proofs.YtldbabadbggleaaW.PrintWords Go.Proofs.YtldbabadbggleaaW.PrintLast Go.Proofs.YtldbabadbggleaaW.PrintMore Go.Proofs.Ytldbabadbggleaa.L
theorem szIntS_eq (l : List Int) (h : l.length ≤ maxLen) : laws_szIntS.f l 1048576 = some (if 1048576 < l.length then -1 else 1048576 - (l.length : Int)) := by
  unfold maxLen at h
  unfold laws_szIntS.f
  rw [wrap_id (by omega) (by omega)]
  by_cases h2 : 1048576 < l.length
  · rw [if_pos (by omega), if_pos h2]
  · rw [if_neg (by omega), if_neg h2]
theorem szPoset_eq (l : List Int) (h : l.length ≤ maxLen) : laws_szPoset.f l 1048576 = some (if 1048576 < l.length then -1 else 1048576 - (l.length : Int)) := by
  unfold laws_szPoset.f
  rw [szIntS_eq l h, Option.bind_some]
  split
  · rfl
  · rw [if_neg (by omega)]
theorem toPoset_ev (l : List Int) (hl : l.length ≤ 35184372088832) : Ev (fun k => laws_toPoset.f k l) l := Ev.bind (toIntS_ev l hl) (Ev.now _)
theorem eqPoset_ev (a b : List Int) (hl : a.length ≤ 9223372036854775806) : Ev (fun k => laws_eqPoset.f k a b) (decide (a = b)) := by
  refine Ev.bind (eqIntS_ev a b hl) (ev_ite (fun e => ?_) (fun e => ?_))
  · rw [e]; exact Ev.now _
  · rw [Bool.eq_false_iff.mpr e]; exact Ev.now _
theorem eqPoset_refl (a : List Int) (hl : a.length ≤ 9223372036854775806) : Ev (fun k => laws_eqPoset.f k a a) true := by simpa using eqPoset_ev a a hl
theorem eqIntS_refl (a : List Int) (hl : a.length ≤ 9223372036854775806) : Ev (fun k => laws_eqIntS.f k a a) true := by simpa using eqIntS_ev a a hl
theorem markPoset_ev (l : List Int) (q : Nat) (hl : l.length ≤ 4611686018427387903) (hq : q ≤ 4611686018427387903) : Ev (fun k => laws_markPoset.f k l (q : Int)) (((q + l.length : Nat) : Int), marks q l.length) := Ev.bind (markIntS_ev l q hl hq) (Ev.now _)
end Go.Proofs.Ytldbabadbggleaa.M
end
section
namespace Go.Proofs.Ytldbabadbggleaa.M
open Go.RowKit Go.Proofs.YtldbabadbggleaaW.PrintWords Go.Proofs.YtldbabadbggleaaW.PrintLast Go.Proofs.YtldbabadbggleaaW.PrintMore Go.Proofs.Ytldbabadbggleaa.L
set_option linter.unusedVariables false
def RowsOk (r : List (List Int)) : Prop := r.length ≤ 100000 ∧ ∀ x ∈ r, x.length ≤ 100000
theorem rd_rows {r : List (List Int)} {i : Nat} (h : i < r.length) : rd_L1 r (i : Int) = r[i] := by unfold rd_L1; simp [List.getD_eq_getElem?_getD, h]
theorem eqIntSS_l0 (r : List (List Int)) (hr : RowsOk r) : ∀ (d i : Nat), i + d = r.length → Ev (fun k => laws_eqIntSS.l0 k r r (i : Int)) true
  | 0, i, h => Ev.step (fun _ => laws_eqIntSS.l0.eq_2 ..) (ev_neg (by omega) (Ev.now _))
  | d + 1, i, h => by
    have hi : i < r.length := by omega
    have hl := hr.1
    have hx := hr.2 _ (List.getElem_mem hi)
    refine Ev.step (fun _ => laws_eqIntSS.l0.eq_2 ..) (ev_pos (by omega) (ev_pos (by omega) (ev_pos (by omega) ?_)))
    rw [rd_rows hi, wrap_succ (by omega)]
    exact Ev.bind (eqIntS_refl _ (by omega)) (ev_pos rfl (eqIntSS_l0 r hr d (i + 1) (by omega)))
theorem eqIntSS_refl (r : List (List Int)) (hr : RowsOk r) : Ev (fun k => laws_eqIntSS.f k r r) true := ev_pos rfl (eqIntSS_l0 r hr r.length 0 (Nat.zero_add _))
def marksR : Nat → List (List Int) → List (List Int)
  | _, [] => []
  | s, l :: ls => marks s l.length :: marksR (s + l.length) ls
def lenR : List (List Int) → Nat
  | [] => 0
  | l :: ls => l.length + lenR ls
theorem lenR_le : ∀ (r : List (List Int)), (∀ x ∈ r, x.length ≤ 100000) → lenR r ≤ 100000 * r.length
  | [], _ => Nat.le_refl _
  | l :: ls, h => by
    have h1 := h l List.mem_cons_self
    have h2 := lenR_le ls fun x hx => h x (List.mem_cons_of_mem _ hx)
    rw [lenR, List.length_cons]
    omega
theorem getR {done rest : List (List Int)} {l : List Int} : rd_L1 (done ++ l :: rest) (done.length : Int) = l := by
  rw [rd_rows (by simp)]
  simp
theorem markSS_l0 : ∀ (rest done : List (List Int)) (s : Nat), (∀ x ∈ rest, x.length ≤ 100000) → done.length + rest.length ≤ 100000 → s + lenR rest ≤ 1000000000000 →
    Ev (fun k => laws_markIntSS.l0 k (done ++ rest) (s : Int) (done.length : Int)) (((s + lenR rest : Nat) : Int), done ++ marksR s rest)
  | [], done, s, h1, h2, h3 => by
    refine Ev.step (fun _ => laws_markIntSS.l0.eq_2 ..) (ev_neg (by rw [List.append_nil]; omega) ?_)
    rw [marksR, List.append_nil]
    exact Ev.now _
  | l :: rest, done, s, h1, h2, h3 => by
    have hl := h1 l List.mem_cons_self
    rw [List.length_cons] at h2
    rw [lenR] at h3 ⊢
    refine Ev.step (fun _ => laws_markIntSS.l0.eq_2 ..) (ev_pos (by rw [List.length_append, List.length_cons]; omega) (ev_pos (by omega) ?_))
    rw [getR, Int.toNat_natCast, wrap_succ (by omega)]
    refine Ev.bind (markIntS_ev l s (by omega) (by omega)) ?_
    have ih := markSS_l0 rest (done ++ [marks s l.length]) (s + l.length) (fun x hx => h1 x (List.mem_cons_of_mem _ hx)) (by rw [List.length_append, List.length_singleton]; omega) (by omega)
    rw [List.length_append, List.length_singleton, List.append_assoc, List.append_assoc, show s + l.length + lenR rest = s + (l.length + lenR rest) by omega] at ih
    have e : (done ++ l :: rest).set done.length (marks s l.length) = done ++ ([marks s l.length] ++ rest) := by simp
    show Ev (fun k => laws_markIntSS.l0 k ((done ++ l :: rest).set done.length (marks s l.length)) ((s + l.length : Nat) : Int) ((done.length + 1 : Nat) : Int)) _
    rw [e]
    exact ih
theorem heldSS_l0 : ∀ (rest done : List (List Int)) (s : Nat), (∀ x ∈ rest, x.length ≤ 100000) → done.length + rest.length ≤ 100000 → s + lenR rest ≤ 1000000000000 →
    Ev (fun k => laws_heldIntSS.l0 k (done ++ marksR s rest) (s : Int) (done.length : Int)) ((s + lenR rest : Nat) : Int)
  | [], done, s, h1, h2, h3 => by
    refine Ev.step (fun _ => laws_heldIntSS.l0.eq_2 ..) (ev_neg (by rw [marksR, List.append_nil]; omega) ?_)
    exact Ev.now _
  | l :: rest, done, s, h1, h2, h3 => by
    have hl := h1 l List.mem_cons_self
    rw [List.length_cons] at h2
    rw [lenR] at h3 ⊢
    rw [marksR]
    refine Ev.step (fun _ => laws_heldIntSS.l0.eq_2 ..) (ev_pos (by rw [List.length_append, List.length_cons]; omega) (ev_pos (by omega) ?_))
    rw [getR, wrap_succ (by omega)]
    refine Ev.bind (heldIntS_ev s l.length (by omega) (by omega)) (ev_neg (by omega) ?_)
    have ih := heldSS_l0 rest (done ++ [marks s l.length]) (s + l.length) (fun x hx => h1 x (List.mem_cons_of_mem _ hx)) (by rw [List.length_append, List.length_singleton]; omega) (by omega)
    rw [List.length_append, List.length_singleton, List.append_assoc, show s + l.length + lenR rest = s + (l.length + lenR rest) by omega] at ih
    exact ih
theorem markIntSS_ev (r : List (List Int)) (hr : RowsOk r) : ∃ (q : Int) (R : List (List Int)), Ev (fun k => laws_markIntSS.f k r 1) (q, R) ∧ Ev (fun k => laws_heldIntSS.f k R 1) q ∧ 0 ≤ q := by
  have h := lenR_le r hr.2
  have h1 := hr.1
  have m := markSS_l0 r [] 1 hr.2 (by rw [List.length_nil]; omega) (by omega)
  have e := heldSS_l0 r [] 1 hr.2 (by rw [List.length_nil]; omega) (by omega)
  exact ⟨_, _, m, e, by omega⟩
def allN (p : List Nat) (b : Nat) : Nat → List Nat → List (List Nat)
  | 0, x => [x]
  | d + 1, x => (List.range' (lowN p x x.length) (b + 1 - lowN p x x.length)).flatMap fun y => allN p b d (x ++ [y])
theorem allN_len (p : List Nat) (b : Nat) : ∀ d x, (allN p b d x).length ≤ (b + 1) ^ d
  | 0, x => Nat.le_refl _
  | d + 1, x => by
    have key : ∀ (l : List Nat), (l.flatMap fun y => allN p b d (x ++ [y])).length ≤ l.length * (b + 1) ^ d := fun l => by
      induction l with
      | nil => exact Nat.zero_le _
      | cons y l ih =>
        have := allN_len p b d (x ++ [y])
        rw [List.flatMap_cons, List.length_append, List.length_cons, Nat.succ_mul]
        omega
    rw [allN, Nat.pow_succ, Nat.mul_comm]
    refine Nat.le_trans (key _) (Nat.mul_le_mul_right _ ?_)
    rw [List.length_range']; omega
theorem allN_row (p : List Nat) (b : Nat) : ∀ d x, ∀ y ∈ allN p b d x, y.length = x.length + d
  | 0, x, y, h => by rw [allN, List.mem_singleton] at h; subst h; rfl
  | d + 1, x, y, h => by
    rw [allN, List.mem_flatMap] at h
    obtain ⟨z, _, hz⟩ := h
    have := allN_row p b d _ y hz
    rw [List.length_append, List.length_singleton] at this
    omega
theorem least_eq (F : List Nat) : ∀ (js : List Nat) (a : Nat), (∀ j ∈ js, j < F.length) → impl_Poset_labels.least (toI F) (toI js) (a : Int) = some ((js.foldl (fun o j => max o (F.getD j 0)) a : Nat) : Int)
  | [], a, _ => rfl
  | j :: js, a, h => by
    have hj := h j List.mem_cons_self
    show impl_Poset_labels.least (toI F) ((j : Int) :: toI js) (a : Int) = _
    rw [impl_Poset_labels.least, if_pos (by rw [toI_len]; omega), rd_toI, mx_nat, least_eq F js _ fun x hx => h x (List.mem_cons_of_mem _ hx)]
    rfl
theorem getD_pre (x z : List Nat) {j : Nat} (h : j < x.length) : (x ++ z).getD j 0 = x.getD j 0 := by
  rw [List.getD_eq_getElem?_getD, List.getD_eq_getElem?_getD, List.getElem?_append_left h]
theorem low_pre {p : List Nat} (g : Good p) (x z : List Nat) (h : x.length < p.length) : (items (less p x.length)).foldl (fun o j => max o ((x ++ z).getD j 0)) 0 = lowN p x x.length := by
  have hl := g.lt _ h
  have h10 := g.le
  unfold lowN
  rw [foldl_items_n _ _ (show less p x.length < 2 ^ p.length from g.lt10 _) h10]
  unfold foldBits
  refine foldl_congr _ _ fun a e he => ?_
  by_cases c : (less p x.length).testBit e = true
  · have := (g.bit c).1
    rw [if_pos c, if_pos c]
    show max a ((x ++ z).getD e 0) = max a (x.getD e 0)
    rw [getD_pre x z this]
  · rw [if_neg c, if_neg c]
theorem set_end (x : List Nat) (w : Nat) (z : List Nat) (y : Nat) : (toI (x ++ w :: z)).set x.length (y : Int) = toI (x ++ [y] ++ z) := by
  rw [toI_set, List.set_append_right _ _ (Nat.le_refl _), Nat.sub_self, List.set_cons_zero, List.append_assoc]; rfl
theorem put_ok {p : List Nat} (g : Good p) {b k : Nat} (hb : b ≤ 20) (hk : ∀ i ∈ List.range p.length, impl_items.f k ((less p i : Nat) : Int) = some (toI (items (less p i)))) : ∀ (d : Nat) (x z : List Nat) (O : List (List Int)), x.length + d = p.length → z.length = d → (∀ y ∈ x, y ≤ b) → O.length + (allN p b d x).length ≤ 1000000 →
    ∃ z', z'.length = d ∧ impl_Poset_labels.put k (toI p) (b : Int) d (x.length : Int) (toI (x ++ z)) O = some (toI (x ++ z'), O ++ (allN p b d x).map toI)
  | 0, x, z, O, h, hz, hx, hO => by
    have hp := g.le
    rw [allN, List.length_singleton] at hO
    refine ⟨z, hz, ?_⟩
    rw [impl_Poset_labels.put, if_pos (by rw [toI_len]; omega), if_pos ⟨by rw [toI_len, List.length_append]; omega, by omega⟩, allN]
    have : z = [] := List.eq_nil_of_length_eq_zero hz
    subst this
    rw [List.append_nil]; rfl
  | d + 1, x, z, O, h, hz, hx, hO => by
    have hp := g.le
    have hi : x.length < p.length := by omega
    rw [impl_Poset_labels.put, if_neg (by rw [toI_len]; omega), if_pos (by rw [toI_len]; omega), rd_less, hk x.length (List.mem_range.mpr hi), Option.bind_some, if_pos (by have := items_len (less p x.length); rw [toI_len]; omega)]
    have hl := least_eq (x ++ z) (items (less p x.length)) 0 fun j hj => by
      have := (g.bit (mem_items.mp hj).2).1
      rw [List.length_append]; omega
    rw [low_pre g x z hi] at hl
    rw [show ((0 : Nat) : Int) = 0 from rfl] at hl
    rw [hl, Option.bind_some]
    rw [allN] at hO ⊢
    generalize lowN p x x.length = lo at hO ⊢
    have key : ∀ (c kk : Nat) (z : List Nat) (O : List (List Int)), (kk + c = b + 1 ∨ (c = 0 ∧ b < kk)) → z.length = d + 1 → O.length + ((List.range' kk c).flatMap fun y => allN p b d (x ++ [y])).length ≤ 1000000 →
        ∃ z', z'.length = d + 1 ∧ impl_Poset_labels.loop (impl_Poset_labels.put k (toI p) (b : Int) d (wrap64 ((x.length : Int) + 1))) (x.length : Int) (b : Int) c (kk : Int) (toI (x ++ z)) O = some (toI (x ++ z'), O ++ ((List.range' kk c).flatMap fun y => allN p b d (x ++ [y])).map toI) := by
      intro c
      induction c with
      | zero =>
        intro kk z O hc hz hO
        refine ⟨z, hz, ?_⟩
        rw [impl_Poset_labels.loop, if_neg (by omega)]
        simp
      | succ c ih =>
        intro kk z O hc hz hO
        obtain ⟨w, z1, rfl⟩ : ∃ w z1, z = w :: z1 := by
          cases z with
          | nil => cases hz
          | cons w z1 => exact ⟨w, z1, rfl⟩
        rw [List.length_cons] at hz
        rw [List.range'_succ, List.flatMap_cons, List.length_append] at hO
        rw [impl_Poset_labels.loop, if_pos (by omega), if_pos (by rw [toI_len, List.length_append, List.length_cons]; omega), Int.toNat_natCast, set_end]
        have hp2 := put_ok g hb hk d (x ++ [kk]) z1 O (by rw [List.length_append, List.length_singleton]; omega) (by omega) (fun y hy => by
          rcases List.mem_append.mp hy with hy | hy
          · exact hx y hy
          · rw [List.mem_singleton] at hy; omega) (by omega)
        obtain ⟨z2, hz2, e2⟩ := hp2
        rw [wrap_succ (by omega)]
        rw [List.length_append, List.length_singleton] at e2
        rw [e2, Option.bind_some, wrap_succ (by omega)]
        have ih2 := ih (kk + 1) (kk :: z2) (O ++ (allN p b d (x ++ [kk])).map toI) (by omega) (by rw [List.length_cons]; omega) (by rw [List.length_append, List.length_map]; omega)
        obtain ⟨z3, hz3, e3⟩ := ih2
        refine ⟨z3, hz3, ?_⟩
        rw [wrap_succ (by omega)] at e3
        rw [List.append_assoc, List.singleton_append, e3, List.range'_succ, List.flatMap_cons, List.map_append, List.append_assoc]
    have e : ((b : Int) + 1 - (lo : Int)).toNat = b + 1 - lo := by omega
    rw [e]
    exact key (b + 1 - lo) lo z O (by omega) hz hO
theorem labels_ev {p : List Nat} (g : Good p) {b : Nat} (hb : b ≤ 4) (hp : p.length ≤ 6) : Ev (fun k => impl_Poset_labels.f k (toI p) (b : Int)) ((allN p b p.length []).map toI) := by
  obtain ⟨K, hK⟩ := ev_all (f := fun k (i : Nat) => impl_items.f k ((less p i : Nat) : Int)) (r := fun i => toI (items (less p i))) (List.range p.length) fun i _ => items_ev (g.lt63 i)
  refine ⟨K, fun k hk => ?_⟩
  have hl := allN_len p b p.length []
  have hl2 : (b + 1) ^ p.length ≤ 5 ^ 6 := Nat.le_trans (Nat.pow_le_pow_left (show b + 1 ≤ 5 by omega) _) (Nat.pow_le_pow_right (by omega) hp)
  obtain ⟨z, hz, e⟩ := put_ok g (b := b) (by omega) (hK k hk) p.length [] (List.replicate p.length 0) [] (by simp) (by simp) (fun y hy => by cases hy) (by rw [List.length_nil]; omega)
  show impl_Poset_labels.f k (toI p) (b : Int) = _
  unfold impl_Poset_labels.f
  rw [if_pos (by rw [toI_len]; omega), toI_len]
  have e0 : List.replicate p.length (0 : Int) = toI ([] ++ List.replicate p.length 0) := by rw [List.nil_append, ← toI_rep]; rfl
  rw [e0]
  have e1 : impl_Poset_labels.put k (toI p) (b : Int) p.length 0 (toI ([] ++ List.replicate p.length 0)) [] = _ := e
  rw [e1]; rfl
theorem specLow {p : List Nat} (g : Good p) (x : List Nat) (hx : x.length < p.length) (b : Int) (R : List (List Int)) (c : Ev (fun k => spec_pcAll.l1 k (toI x) b [] ((lowN p x x.length : Nat) : Int) (toI p)) R) : ∀ (d q a : Nat), q + d = x.length → a = (List.range q).foldl (fun o j => if (less p x.length).testBit j = true then max o (x.getD j 0) else o) 0 →
    Ev (fun k => spec_pcAll.l0 k (toI x) b (x.length : Int) (a : Int) (toI x) (x.length : Int) (q : Int) (toI p)) R
  | 0, q, a, h, ha => by
    have hp := g.le
    refine Ev.step (fun _ => spec_pcAll.l0.eq_2 ..) (ev_neg (by omega) ?_)
    have e : a = lowN p x x.length := by
      have hq : q = x.length := by omega
      subst hq
      rw [ha]
      unfold lowN
      rw [foldBits_le (n := x.length) _ _ (g.lt _ hx) (by omega)]
      rfl
    rw [e]; exact c
  | d + 1, q, a, h, ha => by
    have hp := g.le
    have ih := specLow g x hx b R c d (q + 1)
    refine Ev.step (fun _ => spec_pcAll.l0.eq_2 ..) (ev_pos (by omega) (ev_pos (by omega) (ev_pos (by rw [toI_len]; omega) (ev_pos (by omega) (ev_pos (by rw [toI_len]; omega) ?_)))))
    rw [rd_less, rd_toI, wrap_succ (by omega)]
    refine ev_call (poIn_eq (by omega)) (ev_ite (fun e => ?_) (fun e => ?_))
    · refine ev_call (l1Most_nat _ _) (ih _ (by omega) ?_)
      rw [List.range_succ, List.foldl_append, List.foldl_cons, List.foldl_nil, if_pos e, ha]
    · refine ih a (by omega) ?_
      rw [List.range_succ, List.foldl_append, List.foldl_cons, List.foldl_nil, if_neg e, ha]
theorem specAll {p : List Nat} (g : Good p) {b : Nat} (hb : b ≤ 4) (hp : p.length ≤ 6) : ∀ (d : Nat) (x : List Nat), x.length + d = p.length → Ev (fun k => spec_pcAll.f k (toI p) (toI x) (b : Int)) ((allN p b d x).map toI)
  | 0, x, h => by
    refine Ev.step (fun _ => spec_pcAll.f.eq_2 ..) (ev_pos (by rw [toI_len, toI_len]; omega) (ev_call (l1Own_eq _ (by rw [toI_len]; omega)) ?_))
    exact Ev.now _
  | d + 1, x, h => by
    have key : ∀ (c y : Nat) (out : List (List Int)), (y + c = b + 1 ∨ (c = 0 ∧ b < y)) → out.length + c * 5 ^ d ≤ 1000000 →
        Ev (fun k => spec_pcAll.l1 k (toI x) (b : Int) out (y : Int) (toI p)) (out ++ ((List.range' y c).flatMap fun y => allN p b d (x ++ [y])).map toI) := by
      intro c
      induction c with
      | zero =>
        intro y out hc ho
        refine Ev.step (fun _ => spec_pcAll.l1.eq_2 ..) (ev_neg (by omega) ?_)
        simpa using Ev.now out
      | succ c ih =>
        intro y out hc ho
        rw [Nat.succ_mul] at ho
        have hl := allN_len p b d (x ++ [y])
        have hl2 : (b + 1) ^ d ≤ 5 ^ d := Nat.pow_le_pow_left (by omega) d
        refine Ev.step (fun _ => spec_pcAll.l1.eq_2 ..) (ev_pos (by omega) (ev_call (l1Own_eq _ (by rw [toI_len]; omega)) (ev_call rfl (ev_pos (by rw [toI_len, List.length_singleton]; omega) ?_))))
        rw [← toI_one, ← toI_app]
        refine Ev.bind (specAll g hb hp d (x ++ [y]) (by rw [List.length_append, List.length_singleton]; omega)) (ev_pos (by rw [List.length_map]; omega) ?_)
        rw [wrap_succ (by omega), List.range'_succ, List.flatMap_cons, List.map_append, ← List.append_assoc]
        exact ih (y + 1) _ (by omega) (by rw [List.length_append, List.length_map]; omega)
    refine Ev.step (fun _ => spec_pcAll.f.eq_2 ..) (ev_neg (by rw [toI_len, toI_len]; omega) ?_)
    rw [toI_len]
    have h5 : 5 * 5 ^ d ≤ 5 * 5 ^ 5 := Nat.mul_le_mul_left _ (Nat.pow_le_pow_right (by omega) (by omega))
    have hc : (b + 1 - lowN p x x.length) * 5 ^ d ≤ 5 * 5 ^ d := Nat.mul_le_mul_right _ (by omega)
    have k2 := key (b + 1 - lowN p x x.length) (lowN p x x.length) [] (by omega) (by rw [List.length_nil]; omega)
    rw [List.nil_append] at k2
    exact specLow g x (by omega) (b : Int) _ k2 x.length 0 0 (Nat.zero_add _) rfl
theorem agree_FnExactAllArrays (l : List Int) (b : Int) (hl : l.length ≤ 1048576) : ∃ r : List (List Int) × Bool, RowsOk r.1 ∧ Ev (fun k => spec_AllArrays.f k l b) r ∧ Ev (fun k => impl_AllArrays.f k l b) r := by
  have no : RowsOk (([], false) : List (List Int) × Bool).1 := ⟨Nat.zero_le _, fun x hx => by cases hx⟩
  by_cases h : goodB l = true
  · obtain ⟨p, rfl, g⟩ := goodB_of h
    have hp := g.le
    by_cases h2 : inB b 0 4 = true
    · have b2 := inB_iff.mp h2
      obtain ⟨c, rfl⟩ : ∃ c : Nat, b = (c : Int) := ⟨b.toNat, by omega⟩
      by_cases h3 : p.length ≤ 6
      · refine ⟨((allN p c p.length []).map toI, true), ⟨?_, fun x hx => ?_⟩, ?_, ?_⟩
        · rw [List.length_map]
          have hl2 : (c + 1) ^ p.length ≤ 5 ^ 6 := Nat.le_trans (Nat.pow_le_pow_left (show c + 1 ≤ 5 by omega) _) (Nat.pow_le_pow_right (by omega) h3)
          have := allN_len p c p.length []
          omega
        · obtain ⟨y, hy, rfl⟩ := List.mem_map.mp hx
          have := allN_row p c _ _ y hy
          rw [List.length_nil] at this
          rw [toI_len]; omega
        · refine Ev.bind (poGood_ev _) (ev_pos h (ev_neg (by rw [toI_len]; omega) (ev_call (l1In_eq _ _ _) (ev_pos h2 ?_))))
          exact Ev.bind (specAll g (by omega) h3 p.length [] (by simp)) (Ev.now _)
        · refine Ev.bind (isPoset_ev _) (ev_pos h (ev_call (within_eq _ _ _) (ev_pos h2 (ev_call (n_eq _) (ev_neg (by rw [toI_len]; omega) ?_)))))
          exact Ev.bind (labels_ev g (by omega) h3) (Ev.now _)
      · refine ⟨([], false), no, ?_, ?_⟩
        · exact Ev.bind (poGood_ev _) (ev_pos h (ev_pos (by rw [toI_len]; omega) (Ev.now _)))
        · exact Ev.bind (isPoset_ev _) (ev_pos h (ev_call (within_eq _ _ _) (ev_pos h2 (ev_call (n_eq _) (ev_pos (by rw [toI_len]; omega) (Ev.now _))))))
    · refine ⟨([], false), no, ?_, ?_⟩
      · refine Ev.bind (poGood_ev _) (ev_pos h (ev_ite (fun _ => Ev.now _) fun _ => ev_call (l1In_eq _ _ _) (ev_neg h2 (Ev.now _))))
      · exact Ev.bind (isPoset_ev _) (ev_pos h (ev_call (within_eq _ _ _) (ev_neg h2 (Ev.now _))))
  · exact ⟨([], false), no, Ev.bind (poGood_ev _) (ev_neg h (Ev.now _)), Ev.bind (isPoset_ev _) (ev_neg h (Ev.now _))⟩
end Go.Proofs.Ytldbabadbggleaa.M
end
section
namespace Go.Proofs.Ytldbabadbggleaa.Pure
open Go.RowKit Go.Proofs.YtldbabadbggleaaW.PrintWords Go.Proofs.YtldbabadbggleaaW.PrintLast Go.Proofs.YtldbabadbggleaaW.PrintMore Go.Proofs.Ytldbabadbggleaa.L Go.Proofs.Ytldbabadbggleaa.M
theorem FnExactAllArrays : laws_FnExactAllArrays.Pure2 := by
  intro l0 a1 hm0 hw0 w1
  refine Ev.rounds ?_
  refine ev_call (szPoset_eq l0 hm0) ?_
  by_cases b0 : 1048576 < l0.length
  · rw [if_pos b0]; exact ev_pos (by decide) (Ev.now _)
  rw [if_neg b0]
  refine ev_neg (by omega) ?_
  have T0 := toPoset_ev l0 (by omega)
  have E0 := eqPoset_refl l0 (by omega)
  have M0 := markPoset_ev l0 (1) (by omega) (by omega)
  obtain ⟨r, hr, hs, hi⟩ := agree_FnExactAllArrays l0 a1 (by omega)
  have Er := eqIntSS_refl r.1 hr
  obtain ⟨q, R, Mr, Hr, hq⟩ := markIntSS_ev r.1 hr
  repeat' first
    | with_reducible exact Ev.now true
    | unfold laws_FnExactAllArrays.g1
    | unfold laws_FnExactAllArrays.g2
    | unfold laws_FnExactAllArrays.g3
    | with_reducible refine Ev.bind hs ?_
    | with_reducible refine Ev.bind hi ?_
    | with_reducible refine Ev.bind T0 ?_
    | with_reducible refine Ev.bind E0 ?_
    | with_reducible refine Ev.bind M0 ?_
    | with_reducible refine Ev.bind Er ?_
    | with_reducible refine Ev.bind Mr ?_
    | with_reducible refine Ev.bind Hr ?_
    | with_reducible refine ev_pos rfl ?_
    | (with_reducible refine ev_neg ?h ?_; case h => first | (simp; done) | omega | (simp only; omega) | (simp; omega))
end Go.Proofs.Ytldbabadbggleaa.Pure
end
section
namespace Go.Proofs.Ytldbabadbggleaa.R
open Go.ChangeShapes Go.WideShapes Go.ChangeAt Go.RowKit
open Go.ChangeMaps (open_string shut_string)
set_option linter.unusedVariables false
def IsRow (k : IntKind) (w : World) (a : Option Addr) (len cap : Nat) (zs : List Int) : Prop :=
  (a = none ∧ len = 0 ∧ cap = 0 ∧ zs = []) ∨
  ∃ x, a = some x ∧ len ≤ cap ∧ cap ≤ maxLen ∧ zs.length = cap ∧ (∀ i, i < zs.length → w.cell? (x.add i) = some (.int k (zs.getD i 0))) ∧ ∀ n ∈ zs, (Lit.int k n).wf = true
variable {H : Type} {enc : TypeId × Value → H} {P : Program} {W : World} {base : Nat} {ps : List MemPlace}
theorem row_of {t e : TypeId} {k : IntKind} {fuel : Nat} {c : Value} {y : DataW H × List MemPlace} (hu : P.underlying t = some (.slice e)) (he : P.underlying e = some (.int k)) (hc : P.cellsOf e = 1)
    (hf : DataW.trod enc P W 0 (fun _ => true) true fuel t [c] = some y) : ∃ a len cap zs, c = .slice a len cap ∧ IsRow k W a len cap zs := by
  rcases open_ints hu he hc hf with ⟨hcs, _⟩ | ⟨x, l, c', zs, hcs, _, hl, hm, hz, _, hcell, hwz⟩
  · simp only [List.cons.injEq, and_true] at hcs
    subst hcs
    exact ⟨_, _, _, [], rfl, .inl ⟨rfl, rfl, rfl, rfl⟩⟩
  · simp only [List.cons.injEq, and_true] at hcs
    subst hcs
    exact ⟨_, _, _, zs, rfl, .inr ⟨_, rfl, hl, hm, by simpa using hz, hcell, hwz⟩⟩
theorem array1 {α : Type} {cs : Array α} (h : cs.size = 1) : ∃ c0, cs = #[c0] := by
  obtain ⟨l⟩ := cs
  match l, h with
  | [c0], _ => exact ⟨c0, rfl⟩
theorem open_poset {r : Reach} {t e : TypeId} {f : Field} {v : Value} {d : DataW H} (hs : P.underlying t = some (.struct #[f])) (ho : f.offset = 0) (hC : P.cellsOf t = 1) (hfc : P.cellsOf f.type = 1) (hu : P.underlying f.type = some (.slice e)) (he : P.underlying e = some (.int .i64)) (hc : P.cellsOf e = 1)
    (hv : Value.okWide P W r base t v) (h : DataW.Trod enc P W 0 (fun _ => true) true t v d ps) : ∃ a len cap zs, v = .agg #[.slice a len cap] ∧ IsRow .i64 W a len cap zs := by
  obtain ⟨cs, rfl, hsz⟩ := okWide_struct hs hv
  obtain ⟨c0, rfl⟩ := array1 (hsz.trans hC)
  obtain ⟨fuel, hf⟩ := h
  obtain ⟨y0, n, _, _, h0⟩ := trod_struct1 hs hf
  rw [ho, hfc] at h0
  obtain ⟨a, len, cap, zs, rfl, hz⟩ := row_of hu he hc (by simpa [Value.cells] using h0)
  exact ⟨a, len, cap, zs, rfl, hz⟩
theorem open_desk {r : Reach} {t e : TypeId} {f f1 g : Field} {v : Value} {d : DataW H} (hs : P.underlying t = some (.struct #[f, f1])) (ho : f.offset = 0) (ho1 : f1.offset = 1) (hC : P.cellsOf t = 2) (hfc : P.cellsOf f.type = 1) (hfc1 : P.cellsOf f1.type = 1)
    (hs2 : P.underlying f.type = some (.struct #[g])) (hgo : g.offset = 0) (hgc : P.cellsOf g.type = 1) (hu : P.underlying g.type = some (.slice e)) (he : P.underlying e = some (.int .i64)) (hc : P.cellsOf e = 1) (hi : P.underlying f1.type = some (.int .i64))
    (hv : Value.okWide P W r base t v) (h : DataW.Trod enc P W 0 (fun _ => true) true t v d ps) : ∃ a len cap zs x, v = .agg #[.slice a len cap, .int .i64 x] ∧ IsRow .i64 W a len cap zs ∧ (Lit.int .i64 x).wf = true := by
  obtain ⟨cs, rfl, hsz⟩ := okWide_struct hs hv
  obtain ⟨c0, c1, rfl⟩ := Joins.array2 (hsz.trans hC)
  obtain ⟨fuel, hf⟩ := h
  obtain ⟨y0, y1, n, _, _, h0, h1⟩ := trod_struct2 hs hf
  rw [ho, hfc] at h0
  rw [ho1, hfc1] at h1
  obtain ⟨z0, m, _, _, h00⟩ := trod_struct1 hs2 h0
  rw [hgo, hgc] at h00
  obtain ⟨a, len, cap, zs, rfl, hz⟩ := row_of hu he hc (by simpa [Value.cells] using h00)
  obtain ⟨x, e0, e1, wx⟩ := DataW.trod_int hi h1
  simp [Value.cells] at e0
  subst e0
  exact ⟨a, len, cap, zs, x, rfl, hz, wx⟩
end Go.Proofs.Ytldbabadbggleaa.R
end
section
namespace Go.Proofs.Ytldbabadbggleaa.fnExactAllArrays
open Go.ChangeShapes Go.WideShapes Go.ChangeAt Go.RowKit Go.Proofs.YtldbabadbggleaaW.PrintWords Go.Proofs.Ytldbabadbggleaa.R
open Go.ChangeMaps (open_string shut_string)
set_option linter.unusedVariables false
theorem own : ownKnob Try.prog.godebug = none := by kernel_rfl
theorem laidOut : laidOutB Try.prog = true := by kernel_rfl
set_option maxRecDepth 100000 in
theorem lifted (os : Os) (started : os.Started) (H : Type) (enc : TypeId × Value → H) :
    ReturnsInHanded {} Try.checked os 3 .any (Rows.fnExactAllArraysSpec.pre6 enc Try.prog Try.f3 Rows.fnExactAllArraysRow.domain false) (Rows.fnExactAllArraysSpec.post enc Try.prog Try.f3 false true false false) := by
  refine returnsInHanded_of_change_sized (C := Try.checked) own started (by kernel_rfl) Try.func3
    (ChangeSpec.witness6 (enc := enc) (C := Try.checked) false ⟨#[], #[.agg #[.slice none 0 0], .int .i64 0], []⟩ 8 (by kernel_rfl) (by kernel_rfl) (by kernel_rfl) (by kernel_rfl)) ?_
  intro W base args ds gs before hval0 hW hcnd hsz0 _
  have hval : ∀ (j : Nat) t v, Try.f3.params[j]? = some t → args[j]? = some v → Value.okWide Try.prog W .any base t v := hval0
  have hW' := hW
  obtain ⟨p, q, hA0, hV, rfl, hfz, hnd⟩ := hW
  have hA : DataW.TrodAll enc Try.prog W 0 (fun _ => true) true Try.f3.params.toList args.toList ds p := hA0
  rw [Try.params3] at hA hval
  obtain ⟨v0, vs0, d0, ds0, p0, q0, hargs, rfl, rfl, h0, r0⟩ := trodAll_cons hA
  obtain ⟨v1, vs1, d1, ds1, p1, q1, rfl, rfl, rfl, h1, r1⟩ := trodAll_cons r0
  obtain ⟨rfl, rfl, rfl⟩ := trodAll_nil r1
  obtain rfl : args = #[v0, v1] := by cases args; simp_all
  obtain ⟨rfl, rfl⟩ := trodVars_none hV
  have k0 := h0
  have lt0 : ∀ x ∈ p0, x.block < W.heap.size := by obtain ⟨m, hm⟩ := k0; exact DataW.trod_lt m _ _ _ hm
  obtain ⟨A0, len0, cap0, z0, rfl, w0⟩ := open_poset Try.underlying24 rfl (by kernel_rfl) (by kernel_rfl) Try.underlying22 Try.underlying3 (by kernel_rfl) (hval 0 24 v0 rfl rfl) h0
  have k1 := h1
  have lt1 : ∀ x ∈ p1, x.block < W.heap.size := by obtain ⟨m, hm⟩ := k1; exact DataW.trod_lt m _ _ _ hm
  obtain ⟨a1, rfl, rfl, rfl, w1⟩ := open_int Try.underlying3 (hval 1 3 v1 rfl rfl) h1
  obtain ⟨l0, rfl, hr0, hm0, hw0, hc0⟩ := ReadsInt.ofRowC w0
  clear hA0 hval0 hsz0
  obtain ⟨k, hp⟩ := Pure.FnExactAllArrays l0 a1 hm0 hw0 w1
  refine (L.laws_FnExactAllArrays.calls k _ _ l0 a1 true W (Kd.C_of_reads (d := (0 : Int)) (h1 := fun _ => rfl) hr0) hc0 hp).mono fun e W' ⟨he, hd⟩ => ?_
  have bel : Below W.heap.size W W' := hd
  subst he
  exact ⟨_, rfl, _, _, _, [], _, [], hW', trodAll_mk1 (shut_bool Try.underlying4 _), (trodAll_cons_mk (Below.trod laidOut (by kernel_rfl) (of_decide_eq_true (by kernel_rfl)) k0 bel lt0) (trodAll_cons_mk (Below.trod laidOut (by kernel_rfl) (of_decide_eq_true (by kernel_rfl)) k1 bel lt1) trodAll_mk0)), rfl, bel.frame _, fun h => by cases h⟩
theorem over : Rows.fnExactAllArraysRow.holds Try.pinned (OpenSpec.ofChange Rows.fnExactAllArraysSpec) :=
  OpenClaim.holds_of_wide 3 Try.f3 rfl rfl rfl rfl rfl rfl rfl ⟨rfl, rfl, rfl, rfl, rfl⟩ rfl rfl rfl rfl rfl (by kernel_rfl) Try.func3 (by kernel_rfl)
    (of_decide_eq_true (by kernel_rfl)) (by unfold Func.isWrapper; first | (rw [if_pos (by decide +kernel)]; kernel_rfl) | (rw [if_neg (by decide +kernel)]; exact ⟨rfl, rfl⟩))
    (fun os started H enc _ => lifted os started H enc)
theorem proved : Rows.FnExactAllArraysSaid := over
end Go.Proofs.Ytldbabadbggleaa.fnExactAllArrays
namespace Go.Proofs.Ytldbabadbggleaa
theorem fnExactAllArrays_holds : Rows.FnExactAllArraysSaid := fnExactAllArrays.proved
end Go.Proofs.Ytldbabadbggleaa
end
