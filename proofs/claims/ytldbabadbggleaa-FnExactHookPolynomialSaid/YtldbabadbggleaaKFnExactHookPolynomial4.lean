/- Laws about the given program: the law FnExactHookPolynomial answers true for every input that its row lets in; no condition is added to the given statement. Contracts of the Go functions that it reaches, and the plain proof over lists. -/
import Derived.Below
import Derived.ChangeOld
import Derived.Lib.SmallJoins
import Derived.OpenShut
import Derived.ProofKit
import Derived.ShutString
import Derived.SizedLaws
import Derived.WalkKit
import Derived.Test.YtldbabadbggleaaWFnExactHookPolynomial0
import Derived.Test.YtldbabadbggleaaKFnExactHookPolynomial0
import Derived.Test.YtldbabadbggleaaKFnExactHookPolynomial1
import Derived.Test.YtldbabadbggleaaKFnExactHookPolynomial2
import Derived.Test.YtldbabadbggleaaKFnExactHookPolynomial3
section
namespace Go.Proofs.Ytldbabadbggleaa.L
open Go.RowKit Go.Proofs.YtldbabadbggleaaW.PrintWords Go.Proofs.YtldbabadbggleaaW.PrintLast Go.Proofs.YtldbabadbggleaaW.PrintMore
attribute [local go_sem] max2_int min2_int max_two min_two max_three min_three max_four min_four
set_option linter.unusedVariables false
set_option linter.unusedSimpArgs false
def laws_markIntS.l0 : Nat → List Int → Int → Int → Option (Int × List Int)
  | 0, _, _, _ => none
  | k + 1, x0, x1, x5 => if x5 < (x0.length : Int) then (if 0 ≤ x5 then (laws_markIntS.l0 k (x0.set (x5 : Int).toNat x1) (wrap64 (x1 + 1)) (wrap64 (x5 + 1))) else (none)) else (some (x1, x0))
def laws_markIntS.f (k : Nat) (l0 : List Int) (a1 : Int) : Option (Int × List Int) := laws_markIntS.l0 k l0 a1 0
theorem laws_markIntS.mono_l : ∀ k, (∀ y0 y1 y2, LeO (laws_markIntS.l0 k y0 y1 y2) (laws_markIntS.l0 (k + 1) y0 y1 y2))
  | 0 => fun _ _ _ r h => by simp [laws_markIntS.l0] at h
  | k + 1 => by
    have ih0 := laws_markIntS.mono_l k
    · intro y0 y1 y2
      unfold laws_markIntS.l0
      repeat' first
      | (with_reducible exact ih0 _ _ _)
      | (with_reducible exact LeO.refl _)
      | (with_reducible exact LeO.none _)
      | (with_reducible refine LeO.ite ?_ ?_)
      | (with_reducible refine LeO.bind ?_ (fun _ => ?_))
      | exact ih0 _ _ _
      | exact LeO.none _
      | refine LeO.ite ?_ ?_
      | refine LeO.bind ?_ (fun _ => ?_)
theorem laws_markIntS.mono : ∀ a0 a1 k, LeO (laws_markIntS.f k a0 a1) (laws_markIntS.f (k + 1) a0 a1) := by
  intro a0 a1 k
  have ih0 := laws_markIntS.mono_l k
  unfold laws_markIntS.f
  repeat' first
      | (with_reducible exact ih0 _ _ _)
      | (with_reducible exact LeO.refl _)
      | (with_reducible exact LeO.none _)
      | (with_reducible refine LeO.ite ?_ ?_)
      | (with_reducible refine LeO.bind ?_ (fun _ => ?_))
      | exact ih0 _ _ _
      | exact LeO.none _
      | refine LeO.ite ?_ ?_
      | refine LeO.bind ?_ (fun _ => ?_)
set_option maxHeartbeats 8000000 in
set_option maxRecDepth 100000 in
theorem laws_markIntS.calls (k : Nat) (P0_ : Nat → Prop) (u9000_ : Value) (l0 : List Int) (a1 : Int) (r1 : Int) (r2 : List Int) (w0 w : World) (hB : Below w0.heap.size w0 w) (ho0 : Kd.R (Kd.int .i64) 3 w w0.heap.size P0_ u9000_ l0) (h : laws_markIntS.f k l0 a1 = some (r1, r2)) :
    Calls Try.prog 19 #[u9000_, .int .i64 a1] w fun e w' => e = .returned (.int .i64 r1) ∧ Kd.R (Kd.int .i64) 3 w' w0.heap.size (fun k_ => (P0_ k_ ∨ w.heap.size ≤ k_)) u9000_ r2 ∧ Below w0.heap.size w0 w' ∧ Kept w w' (fun k_ => P0_ k_) := by
  have HO0 := Aside0.mk (show Kd.R (Kd.int .i64) 3 w w0.heap.size (fun k_ => (P0_ k_ ∨ w.heap.size ≤ k_)) u9000_ l0 from Kd.R_mono ho0 (fun k_ hk => (.inl hk)))
  have HK := Aside0.mk (Kept.refl w (fun k_ => P0_ k_))
  have HW0 := Aside0.mk hB.size
  have HB := Aside0.mk hB
  clear hB
  have H : (laws_markIntS.l0 k l0 a1 0) = some (r1, r2) := h
  clear h
  have H' := Aside0.mk H
  clear H
  go_enter Try.func19, Try.ntmps19
  go_wp2
  go_loopg [1, 5] k (fun kq v1 v5 w' => ∃ (x0_1 : List Int) (x1_1 : Int) (x5_1 : Int), v1 = .int .i64 x1_1 ∧ v5 = .int .i64 x5_1 ∧ Aside0 (laws_markIntS.l0 kq x0_1 x1_1 x5_1 = some (r1, r2)) ∧ Aside0 (kq ≤ k) ∧ Aside0 (Kd.R (Kd.int .i64) 3 w' w0.heap.size (fun k_ => (P0_ k_ ∨ w.heap.size ≤ k_)) u9000_ x0_1) ∧ Aside0 (Kept w w' (fun k_ => P0_ k_)) ∧ Aside0 (Below w0.heap.size w0 w'))
  case atStart => exact ⟨(l0), (a1), (0), (by first | rfl | (simp; done) | (simp [*]; done)), (by first | rfl | (simp; done) | (simp [*]; done)), H', ⟨Nat.le_refl _⟩, ⟨by (with_reducible repeat (first | apply Kd.R_alloc | apply Kd.R_drewN | apply Kd.R_drew)); exact HO0.out⟩, ⟨by repeat (first | (with_reducible first | exact HK.out | apply Kept.alloc | apply Kept.drewN | apply Kept.drew) | exact HK.out)⟩, ⟨by repeat (first | (with_reducible first | exact HB.out | apply below_alloc | apply pw_below_drewN | apply below_drew1) | exact HB.out)⟩⟩
  case round =>
    clear H'
    try clear c1
    try clear p2
    obtain ⟨x0_1, x1_1, x5_1, rfl, rfl, HA, HK1, HO_0, HK, HB⟩ := hrel
    cases gk with
    | zero => exact absurd HA.out (by simp [laws_markIntS.l0])
    | succ k1 =>
      have H := HA.out
      clear HA
      simp only [laws_markIntS.l0] at H
      by_cases c3 : x5_1 < (x0_1.length : Int)
      · rw [if_pos c3] at H
        have c3b0 : decide (x5_1 < (x0_1.length : Int)) = true := decide_eq_true c3
        clear c3
        by_cases c4 : 0 ≤ x5_1
        · rw [if_pos c4] at H
          have c4b0 : decide (0 ≤ x5_1) = true := decide_eq_true c4
          clear c4
          obtain ⟨y254, hy254⟩ : ∃ y_ : List Int, y_ = (x0_1.set (x5_1 : Int).toNat x1_1) := ⟨_, rfl⟩
          replace H : (laws_markIntS.l0 k1 y254 (wrap64 (x1_1 + 1)) (wrap64 (x5_1 + 1))) = some (r1, r2) := by first | (rw [hy254]; with_reducible exact H) | (have H2_ := (Option.bind_some _ _).symm.trans H; rw [hy254]; with_reducible exact H2_) | (have H2_ := (Option.bind_some _ _).symm.trans H; with_reducible exact H2_) | with_reducible exact H | (rw [hy254]; exact H) | exact H
          have Ny254 := Aside0.mk hy254
          clear hy254
          have H' := Aside0.mk H
          clear H
          obtain ⟨Ao6, co6, eo6⟩ := Kd.R_slice HO_0.out
          subst eo6
          have p5 : 0 ≤ (x5_1 : Int) := of_decide_eq_true (by first | (with_reducible assumption) | assumption)
          have q5 : (x5_1 : Int) < ((x0_1.length : Int) : Int) := of_decide_eq_true (by first | (with_reducible assumption) | assumption)
          obtain ⟨go5, co5, eo5, gb5, gl5, cl5, HG5⟩ := Kd.R_form HO_0.out (by omega)
          (first | cases eo5 | (injection eo5 with ea_ en_ ec_; (first | subst ea_ | (injection ea_ with ea_; subst ea_)); subst ec_; clear en_))
          have GB5 := Aside0.mk gb5
          have GG5 := Aside0.mk HG5
          clear gb5 gl5 HG5
          have HMgo5 := Aside0.mk (show (P0_ go5 ∨ w.heap.size ≤ go5) from (HO_0.out.1 _ rfl))
          obtain ⟨hx5_0, hf5_0⟩ := Kd.R_celln 0 HO_0.out (x5_1 : Int) p5 q5
          replace p5 := eq_true p5
          replace q5 := eq_true q5
          have HP7 := Kd.R_putg HO_0.out (x5_1 : Int) x1_1
          go_wp2_with (first | ((with_reducible refine gate_store (t := 3) (p := 15) rfl ?_); refine store_event (t := 3) (p := 15) (v := ?vo_w8) (w1 := (wr.setCell ⟨go5, (x5_1 : Int).toNat, none⟩ (.int .i64 x1_1))) ?hg ?ho ?hn ?hr ?_; (case ho => rfl); (case hg => rfl); (case hn => rfl); (case hr => first | (go_simp; done) | (go_simp; rfl)); intro w8 hw; have hg : wr.grownBy w8 (some go5) := (by rw [hw]; exact HP7.2); have hp_ : Kd.R (Kd.int .i64) 3 w8 w0.heap.size (fun k_ => (P0_ k_ ∨ w.heap.size ≤ k_)) (.slice (some ⟨go5, 0, none⟩) x0_1.length co6) y254 := (by rw [hw, Ny254.out]; exact HP7.1); clear HP7; have n0_ := Aside0.mk (hp_); have n1_ := Aside0.mk ((by rw [hw]; exact below_set (HB.out) GB5.out : Below w0.heap.size w0 w8)); have n2_ := Aside0.mk (Kept.of_grown (S := (fun k_ => P0_ k_)) hg (by repeat (first | (with_reducible first | exact HK.out | apply Kept.alloc | apply Kept.drewN | apply Kept.drew) | exact HK.out)) (fun k_ e_ => (HO_0.out.1 k_ e_))); clear HO_0; clear HB; clear HK; have HO_0 := n0_; have HB := n1_; have HK := n2_; clear n0_ n1_ n2_; clear hg hw hp_))
          go_roundg k1
          case measure => have := HK1.out; omega
          case rel => exact ⟨(y254), (wrap64 (x1_1 + 1)), (wrap64 (x5_1 + 1)), (by first | rfl | (simp; done) | (simp [*]; done)), (by first | rfl | (simp; done) | (simp [*]; done)), H', ⟨by have := HK1.out; omega⟩, ⟨by (with_reducible repeat (first | apply Kd.R_alloc | apply Kd.R_drewN | apply Kd.R_drew)); exact HO_0.out⟩, ⟨by repeat (first | (with_reducible first | exact HK.out | apply Kept.alloc | apply Kept.drewN | apply Kept.drew) | exact HK.out)⟩, ⟨by repeat (first | (with_reducible first | exact HB.out | apply below_alloc | apply pw_below_drewN | apply below_drew1) | exact HB.out)⟩⟩
        · rw [if_neg c4] at H
          exact absurd H (by simp)
      · rw [if_neg c3] at H
        have c3b0 : decide (x5_1 < (x0_1.length : Int)) = false := decide_eq_false c3
        clear c3
        simp only [Option.some.injEq, Prod.mk.injEq] at H
        obtain ⟨rfl, rfl⟩ := H
        obtain ⟨Ao9, co9, eo9⟩ := Kd.R_slice HO_0.out
        subst eo9
        go_wp2
        go_ret
        exact ⟨by first | rfl | (simp [errW_none, errW_some] <;> rfl) | (simp [*, errW_none, errW_some] <;> rfl), by (with_reducible repeat (first | apply Kd.R_alloc | apply Kd.R_drewN | apply Kd.R_drew)); exact HO_0.out, by repeat (first | (with_reducible first | exact HB.out | apply below_alloc | apply pw_below_drewN | apply below_drew1) | exact HB.out), by repeat (first | (with_reducible first | exact HK.out | apply Kept.alloc | apply Kept.drewN | apply Kept.drew) | exact HK.out)⟩
def laws_heldIntS.l0 : Nat → List Int → Int → Int → Option (Int)
  | 0, _, _, _ => none
  | k + 1, x0, x1, x5 => if x5 < (x0.length : Int) then (if 0 ≤ x5 then (if (rd x0 x5) = x1 then (laws_heldIntS.l0 k x0 (wrap64 (x1 + 1)) (wrap64 (x5 + 1))) else (some (-1))) else (none)) else (some x1)
def laws_heldIntS.f (k : Nat) (l0 : List Int) (a1 : Int) : Option (Int) := laws_heldIntS.l0 k l0 a1 0
theorem laws_heldIntS.mono_l : ∀ k, (∀ y0 y1 y2, LeO (laws_heldIntS.l0 k y0 y1 y2) (laws_heldIntS.l0 (k + 1) y0 y1 y2))
  | 0 => fun _ _ _ r h => by simp [laws_heldIntS.l0] at h
  | k + 1 => by
    have ih0 := laws_heldIntS.mono_l k
    · intro y0 y1 y2
      unfold laws_heldIntS.l0
      repeat' first
      | (with_reducible exact ih0 _ _ _)
      | (with_reducible exact LeO.refl _)
      | (with_reducible exact LeO.none _)
      | (with_reducible refine LeO.ite ?_ ?_)
      | (with_reducible refine LeO.bind ?_ (fun _ => ?_))
      | exact ih0 _ _ _
      | exact LeO.none _
      | refine LeO.ite ?_ ?_
      | refine LeO.bind ?_ (fun _ => ?_)
theorem laws_heldIntS.mono : ∀ a0 a1 k, LeO (laws_heldIntS.f k a0 a1) (laws_heldIntS.f (k + 1) a0 a1) := by
  intro a0 a1 k
  have ih0 := laws_heldIntS.mono_l k
  unfold laws_heldIntS.f
  repeat' first
      | (with_reducible exact ih0 _ _ _)
      | (with_reducible exact LeO.refl _)
      | (with_reducible exact LeO.none _)
      | (with_reducible refine LeO.ite ?_ ?_)
      | (with_reducible refine LeO.bind ?_ (fun _ => ?_))
      | exact ih0 _ _ _
      | exact LeO.none _
      | refine LeO.ite ?_ ?_
      | refine LeO.bind ?_ (fun _ => ?_)
set_option maxHeartbeats 8000000 in
set_option maxRecDepth 100000 in
theorem laws_heldIntS.calls (k : Nat) (A0 : Option Addr) (c0 : Nat) (l0 : List Int) (a1 : Int) (r : Int) (w : World) (hr0 : Kd.C (Kd.int .i64) w A0 l0.length l0) (hc0 : l0.length ≤ c0) (h : laws_heldIntS.f k l0 a1 = some r) :
    Calls Try.prog 20 #[.slice A0 l0.length c0, .int .i64 a1] w fun e w' => e = .returned (.int .i64 r) ∧ Drawn0 w w' := by
  have HR0 := Aside0.mk hr0
  have HC0 := Aside0.mk hc0
  clear hr0 hc0
  have H : (laws_heldIntS.l0 k l0 a1 0) = some r := h
  clear h
  have H' := Aside0.mk H
  clear H
  go_enter Try.func20, Try.ntmps20
  go_wp2
  go_loopg [1, 5] k (fun kq v1 v5 w' => ∃ (x1_1 : Int) (x5_1 : Int), v1 = .int .i64 x1_1 ∧ v5 = .int .i64 x5_1 ∧ Aside0 (laws_heldIntS.l0 kq l0 x1_1 x5_1 = some r) ∧ Aside0 (kq ≤ k) ∧ Drawn0 w w')
  case atStart => exact ⟨(a1), (0), (by first | rfl | (simp; done) | (simp [*]; done)), (by first | rfl | (simp; done) | (simp [*]; done)), H', ⟨Nat.le_refl _⟩, by repeat (first | exact Drawn0.refl _ | apply Drawn0.step)⟩
  case round =>
    clear H'
    try clear c2
    try clear p2
    obtain ⟨x1_1, x5_1, rfl, rfl, HA, HK1, ⟨m1, rfl⟩⟩ := hrel
    cases gk with
    | zero => exact absurd HA.out (by simp [laws_heldIntS.l0])
    | succ k1 =>
      have H := HA.out
      clear HA
      simp only [laws_heldIntS.l0] at H
      by_cases c3 : x5_1 < (l0.length : Int)
      · rw [if_pos c3] at H
        have c3b0 : decide (x5_1 < (l0.length : Int)) = true := decide_eq_true c3
        clear c3
        by_cases c4 : 0 ≤ x5_1
        · rw [if_pos c4] at H
          have c4b0 : decide (0 ≤ x5_1) = true := decide_eq_true c4
          clear c4
          by_cases c5 : (rd l0 x5_1) = x1_1
          · rw [if_pos c5] at H
            have c5b0 : ((rd l0 x5_1) == x1_1) = true := beq_iff_eq.mpr c5
            have c5b1 : ((rd l0 x5_1) != x1_1) = false := bne_eq_false_iff_eq.mpr c5
            clear c5
            have H' := Aside0.mk H
            clear H
            have p255 : 0 ≤ (x5_1 : Int) := of_decide_eq_true (by first | (with_reducible assumption) | assumption)
            have q255 : x5_1 < (l0.length : Int) := of_decide_eq_true (by first | (with_reducible assumption) | assumption)
            obtain ⟨ad255, e255, hx255_0⟩ := Kd.at_int HR0.out x5_1 p255 q255
            cases e255
            replace p255 := eq_true p255
            replace q255 := eq_true q255
            go_wp2
            go_roundg k1
            case measure => have := HK1.out; omega
            case rel => exact ⟨(wrap64 (x1_1 + 1)), (wrap64 (x5_1 + 1)), (by first | rfl | (simp; done) | (simp [*]; done)), (by first | rfl | (simp; done) | (simp [*]; done)), H', ⟨by have := HK1.out; omega⟩, by repeat (first | exact Drawn0.refl _ | apply Drawn0.step)⟩
          · rw [if_neg c5] at H
            have c5b0 : ((rd l0 x5_1) == x1_1) = false := beq_eq_false_iff_ne.mpr c5
            have c5b1 : ((rd l0 x5_1) != x1_1) = true := bne_iff_ne.mpr c5
            obtain rfl := Option.some.inj H
            have p255 : 0 ≤ (x5_1 : Int) := of_decide_eq_true (by first | (with_reducible assumption) | assumption)
            have q255 : x5_1 < (l0.length : Int) := of_decide_eq_true (by first | (with_reducible assumption) | assumption)
            obtain ⟨ad255, e255, hx255_0⟩ := Kd.at_int HR0.out x5_1 p255 q255
            cases e255
            replace p255 := eq_true p255
            replace q255 := eq_true q255
            go_wp2
            go_ret
            exact ⟨by first | rfl | (simp; done) | (simp [*]; done), by repeat (first | exact Drawn0.refl _ | apply Drawn0.step)⟩
        · rw [if_neg c4] at H
          exact absurd H (by simp)
      · rw [if_neg c3] at H
        have c3b0 : decide (x5_1 < (l0.length : Int)) = false := decide_eq_false c3
        clear c3
        obtain rfl := Option.some.inj H
        go_wp2
        go_ret
        exact ⟨by first | rfl | (simp; done) | (simp [*]; done), by repeat (first | exact Drawn0.refl _ | apply Drawn0.step)⟩
mutual
def laws_FnExactHookPolynomial.j0 : Nat → Int → Int → List Int → Bool → List Int → Bool → Option (Bool)
  | 0, _, _, _, _, _, _ => none
  | k + 1, x0, x1, x5, x6, x7, x33 => if x33 = true then (none) else ((laws_markIntS.f k x7 1).bind fun bt265 => ((laws_heldIntS.f k bt265.2 1).bind fun t267 => (if t267 < 0 then (none) else (if t267 = bt265.1 then ((impl_HookPolynomial.f k x0 x1).bind fun bt268 => ((laws_eqIntS.f k bt268.1 x5).bind fun t272 => (if t272 = true then (laws_FnExactHookPolynomial.j1 k bt265.2 bt265.1 (bt268.2 != x6)) else (laws_FnExactHookPolynomial.j1 k bt265.2 bt265.1 true)))) else (none)))))
def laws_FnExactHookPolynomial.j1 : Nat → List Int → Int → Bool → Option (Bool)
  | 0, _, _, _ => none
  | k + 1, x7, x9, x59 => if x59 = true then (none) else ((laws_heldIntS.f k x7 1).bind fun t273 => (if t273 < 0 then (none) else (if t273 = x9 then (some true) else (none))))
end
def laws_FnExactHookPolynomial.f (k : Nat) (a0 : Int) (a1 : Int) : Option (Bool) := (spec_HookPolynomial.f k a0 a1).bind fun bt256 => ((impl_HookPolynomial.f k a0 a1).bind fun bt260 => ((laws_eqIntS.f k bt260.1 bt256.1).bind fun t264 => (if t264 = true then (laws_FnExactHookPolynomial.j0 k a0 a1 bt256.1 bt256.2 bt260.1 (bt260.2 != bt256.2)) else (laws_FnExactHookPolynomial.j0 k a0 a1 bt256.1 bt256.2 bt260.1 true))))
theorem laws_FnExactHookPolynomial.mono_l : ∀ k, (∀ y0 y1 y2 y3 y4 y5, LeO (laws_FnExactHookPolynomial.j0 k y0 y1 y2 y3 y4 y5) (laws_FnExactHookPolynomial.j0 (k + 1) y0 y1 y2 y3 y4 y5)) ∧ (∀ y0 y1 y2, LeO (laws_FnExactHookPolynomial.j1 k y0 y1 y2) (laws_FnExactHookPolynomial.j1 (k + 1) y0 y1 y2))
  | 0 => ⟨fun _ _ _ _ _ _ r h => by simp [laws_FnExactHookPolynomial.j0] at h, fun _ _ _ r h => by simp [laws_FnExactHookPolynomial.j1] at h⟩
  | k + 1 => by
    obtain ⟨ih0, ih1⟩ := laws_FnExactHookPolynomial.mono_l k
    refine ⟨?_, ?_⟩
    · intro y0 y1 y2 y3 y4 y5
      unfold laws_FnExactHookPolynomial.j0
      repeat' first
      | (with_reducible exact ih0 _ _ _ _ _ _)
      | (with_reducible exact ih1 _ _ _)
      | (with_reducible exact impl_HookPolynomial.mono _ _ _)
      | (with_reducible exact laws_eqIntS.mono _ _ _)
      | (with_reducible exact laws_heldIntS.mono _ _ _)
      | (with_reducible exact laws_markIntS.mono _ _ _)
      | (with_reducible exact spec_HookPolynomial.mono _ _ _)
      | (with_reducible exact LeO.refl _)
      | (with_reducible exact LeO.none _)
      | (with_reducible refine LeO.ite ?_ ?_)
      | (with_reducible refine LeO.bind ?_ (fun _ => ?_))
      | exact ih0 _ _ _ _ _ _
      | exact ih1 _ _ _
      | exact impl_HookPolynomial.mono _ _ _
      | exact laws_eqIntS.mono _ _ _
      | exact laws_heldIntS.mono _ _ _
      | exact laws_markIntS.mono _ _ _
      | exact spec_HookPolynomial.mono _ _ _
      | exact LeO.none _
      | refine LeO.ite ?_ ?_
      | refine LeO.bind ?_ (fun _ => ?_)
    · intro y0 y1 y2
      unfold laws_FnExactHookPolynomial.j1
      repeat' first
      | (with_reducible exact ih0 _ _ _ _ _ _)
      | (with_reducible exact ih1 _ _ _)
      | (with_reducible exact impl_HookPolynomial.mono _ _ _)
      | (with_reducible exact laws_eqIntS.mono _ _ _)
      | (with_reducible exact laws_heldIntS.mono _ _ _)
      | (with_reducible exact laws_markIntS.mono _ _ _)
      | (with_reducible exact spec_HookPolynomial.mono _ _ _)
      | (with_reducible exact LeO.refl _)
      | (with_reducible exact LeO.none _)
      | (with_reducible refine LeO.ite ?_ ?_)
      | (with_reducible refine LeO.bind ?_ (fun _ => ?_))
      | exact ih0 _ _ _ _ _ _
      | exact ih1 _ _ _
      | exact impl_HookPolynomial.mono _ _ _
      | exact laws_eqIntS.mono _ _ _
      | exact laws_heldIntS.mono _ _ _
      | exact laws_markIntS.mono _ _ _
      | exact spec_HookPolynomial.mono _ _ _
      | exact LeO.none _
      | refine LeO.ite ?_ ?_
      | refine LeO.bind ?_ (fun _ => ?_)
theorem laws_FnExactHookPolynomial.mono : ∀ a0 a1 k, LeO (laws_FnExactHookPolynomial.f k a0 a1) (laws_FnExactHookPolynomial.f (k + 1) a0 a1) := by
  intro a0 a1 k
  obtain ⟨ih0, ih1⟩ := laws_FnExactHookPolynomial.mono_l k
  unfold laws_FnExactHookPolynomial.f
  repeat' first
      | (with_reducible exact ih0 _ _ _ _ _ _)
      | (with_reducible exact ih1 _ _ _)
      | (with_reducible exact impl_HookPolynomial.mono _ _ _)
      | (with_reducible exact laws_eqIntS.mono _ _ _)
      | (with_reducible exact laws_heldIntS.mono _ _ _)
      | (with_reducible exact laws_markIntS.mono _ _ _)
      | (with_reducible exact spec_HookPolynomial.mono _ _ _)
      | (with_reducible exact LeO.refl _)
      | (with_reducible exact LeO.none _)
      | (with_reducible refine LeO.ite ?_ ?_)
      | (with_reducible refine LeO.bind ?_ (fun _ => ?_))
      | exact ih0 _ _ _ _ _ _
      | exact ih1 _ _ _
      | exact impl_HookPolynomial.mono _ _ _
      | exact laws_eqIntS.mono _ _ _
      | exact laws_heldIntS.mono _ _ _
      | exact laws_markIntS.mono _ _ _
      | exact spec_HookPolynomial.mono _ _ _
      | exact LeO.none _
      | refine LeO.ite ?_ ?_
      | refine LeO.bind ?_ (fun _ => ?_)
theorem Kd.Q_reok {α : Type} {d : Kd α} {e base : Nat} {ok1 ok : Nat → Prop} {W : World} {v : Value} {xs : List α} (hE : d.E = []) (h : d.Q e W base ok1 v xs) (hok : ∀ k, v.ownBlock = some k → ok k) : d.Q e W base ok v xs := Kd.Q_mono (Kd.Q_tight hE h) (fun k hk => hok k hk.symm)
set_option maxHeartbeats 8000000 in
set_option maxRecDepth 100000 in
theorem laws_markIntS.callsQ (k : Nat) (P0_ : Nat → Prop) (u9000_ : Value) (l0 : List Int) (a1 : Int) (r1 : Int) (r2 : List Int) (w0 w : World) (hB : Below w0.heap.size w0 w) (ho0 : Kd.Q (Kd.int .i64) 3 w w0.heap.size P0_ u9000_ l0) (h : laws_markIntS.f k l0 a1 = some (r1, r2)) :
    Calls Try.prog 19 #[u9000_, .int .i64 a1] w fun e w' => e = .returned (.int .i64 r1) ∧ Kd.Q (Kd.int .i64) 3 w' w0.heap.size (fun k_ => (P0_ k_ ∨ w.heap.size ≤ k_)) u9000_ r2 ∧ Below w0.heap.size w0 w' ∧ Kept w w' (fun k_ => P0_ k_) := by
  have HO0 := Aside0.mk (show Kd.Q (Kd.int .i64) 3 w w0.heap.size (fun k_ => (P0_ k_ ∨ w.heap.size ≤ k_)) u9000_ l0 from Kd.Q_mono ho0 (fun k_ hk => (.inl hk)))
  have HK := Aside0.mk (Kept.refl w (fun k_ => P0_ k_))
  have HW0 := Aside0.mk hB.size
  have HB := Aside0.mk hB
  clear hB
  have H : (laws_markIntS.l0 k l0 a1 0) = some (r1, r2) := h
  clear h
  have H' := Aside0.mk H
  clear H
  go_enter Try.func19, Try.ntmps19
  go_wp2
  go_loopg [1, 5] k (fun kq v1 v5 w' => ∃ (x0_1 : List Int) (x1_1 : Int) (x5_1 : Int), v1 = .int .i64 x1_1 ∧ v5 = .int .i64 x5_1 ∧ Aside0 (laws_markIntS.l0 kq x0_1 x1_1 x5_1 = some (r1, r2)) ∧ Aside0 (kq ≤ k) ∧ Aside0 (Kd.Q (Kd.int .i64) 3 w' w0.heap.size (fun k_ => (P0_ k_ ∨ w.heap.size ≤ k_)) u9000_ x0_1) ∧ Aside0 (Kept w w' (fun k_ => P0_ k_)) ∧ Aside0 (Below w0.heap.size w0 w'))
  case atStart => exact ⟨(l0), (a1), (0), (by first | rfl | (simp; done) | (simp [*]; done)), (by first | rfl | (simp; done) | (simp [*]; done)), H', ⟨Nat.le_refl _⟩, ⟨by (with_reducible repeat (first | apply Kd.Q_alloc | apply Kd.Q_drewN | apply Kd.Q_drew)); exact HO0.out⟩, ⟨by repeat (first | (with_reducible first | exact HK.out | apply Kept.alloc | apply Kept.drewN | apply Kept.drew) | exact HK.out)⟩, ⟨by repeat (first | (with_reducible first | exact HB.out | apply below_alloc | apply pw_below_drewN | apply below_drew1) | exact HB.out)⟩⟩
  case round =>
    clear H'
    try clear c1
    try clear p2
    obtain ⟨x0_1, x1_1, x5_1, rfl, rfl, HA, HK1, HO_0, HK, HB⟩ := hrel
    cases gk with
    | zero => exact absurd HA.out (by simp [laws_markIntS.l0])
    | succ k1 =>
      have H := HA.out
      clear HA
      simp only [laws_markIntS.l0] at H
      by_cases c3 : x5_1 < (x0_1.length : Int)
      · rw [if_pos c3] at H
        have c3b0 : decide (x5_1 < (x0_1.length : Int)) = true := decide_eq_true c3
        clear c3
        by_cases c4 : 0 ≤ x5_1
        · rw [if_pos c4] at H
          have c4b0 : decide (0 ≤ x5_1) = true := decide_eq_true c4
          clear c4
          obtain ⟨y254, hy254⟩ : ∃ y_ : List Int, y_ = (x0_1.set (x5_1 : Int).toNat x1_1) := ⟨_, rfl⟩
          replace H : (laws_markIntS.l0 k1 y254 (wrap64 (x1_1 + 1)) (wrap64 (x5_1 + 1))) = some (r1, r2) := by first | (rw [hy254]; with_reducible exact H) | (have H2_ := (Option.bind_some _ _).symm.trans H; rw [hy254]; with_reducible exact H2_) | (have H2_ := (Option.bind_some _ _).symm.trans H; with_reducible exact H2_) | with_reducible exact H | (rw [hy254]; exact H) | exact H
          have Ny254 := Aside0.mk hy254
          clear hy254
          have H' := Aside0.mk H
          clear H
          obtain ⟨Ao6, co6, eo6, _⟩ := Kd.Q_slice HO_0.out
          subst eo6
          have p5 : 0 ≤ (x5_1 : Int) := of_decide_eq_true (by first | (with_reducible assumption) | assumption)
          have q5 : (x5_1 : Int) < ((x0_1.length : Int) : Int) := of_decide_eq_true (by first | (with_reducible assumption) | assumption)
          obtain ⟨go5, oo_, co5, eo5, gb5, gl5, cl5, HG5⟩ := Kd.Q_form HO_0.out (by omega)
          (first | cases eo5 | (injection eo5 with ea_ en_ ec_; (first | subst ea_ | (injection ea_ with ea_; subst ea_)); subst ec_; clear en_))
          have GB5 := Aside0.mk gb5
          have GG5 := Aside0.mk HG5
          clear gb5 gl5 HG5
          have HMgo5 := Aside0.mk (show (P0_ go5 ∨ w.heap.size ≤ go5) from (HO_0.out.1 _ rfl))
          obtain ⟨hx5_0, hf5_0⟩ := Kd.Q_cell (0 : Int) HO_0.out (x5_1 : Int) p5 q5
          replace p5 := eq_true p5
          replace q5 := eq_true q5
          have HP7 := Kd.Q_putg HO_0.out (x5_1 : Int) (of_eq_true p5) (of_eq_true q5) x1_1
          go_wp2_with (first | ((with_reducible refine gate_store (t := 3) (p := 15) rfl ?_); refine store_event (t := 3) (p := 15) (v := ?vo_w8) (w1 := (wr.setCell ⟨go5, oo_ + (x5_1 : Int).toNat, none⟩ (.int .i64 x1_1))) ?hg ?ho ?hn ?hr ?_; (case ho => rfl); (case hg => rfl); (case hn => rfl); (case hr => first | (go_simp; done) | (go_simp; rfl)); intro w8 hw; have hg : wr.grownBy w8 (some go5) := (by rw [hw]; exact HP7.2); have hp_ : Kd.Q (Kd.int .i64) 3 w8 w0.heap.size (fun k_ => (P0_ k_ ∨ w.heap.size ≤ k_)) (.slice (some ⟨go5, oo_, none⟩) x0_1.length co6) y254 := (by rw [hw, Ny254.out]; exact HP7.1); clear HP7; have n0_ := Aside0.mk (hp_); have n1_ := Aside0.mk ((by rw [hw]; exact below_set (HB.out) GB5.out : Below w0.heap.size w0 w8)); have n2_ := Aside0.mk (Kept.of_grown (S := (fun k_ => P0_ k_)) hg (by repeat (first | (with_reducible first | exact HK.out | apply Kept.alloc | apply Kept.drewN | apply Kept.drew) | exact HK.out)) (fun k_ e_ => (HO_0.out.1 k_ e_))); clear HO_0; clear HB; clear HK; have HO_0 := n0_; have HB := n1_; have HK := n2_; clear n0_ n1_ n2_; clear hg hw hp_))
          go_roundg k1
          case measure => have := HK1.out; omega
          case rel => exact ⟨(y254), (wrap64 (x1_1 + 1)), (wrap64 (x5_1 + 1)), (by first | rfl | (simp; done) | (simp [*]; done)), (by first | rfl | (simp; done) | (simp [*]; done)), H', ⟨by have := HK1.out; omega⟩, ⟨by (with_reducible repeat (first | apply Kd.Q_alloc | apply Kd.Q_drewN | apply Kd.Q_drew)); exact HO_0.out⟩, ⟨by repeat (first | (with_reducible first | exact HK.out | apply Kept.alloc | apply Kept.drewN | apply Kept.drew) | exact HK.out)⟩, ⟨by repeat (first | (with_reducible first | exact HB.out | apply below_alloc | apply pw_below_drewN | apply below_drew1) | exact HB.out)⟩⟩
        · rw [if_neg c4] at H
          exact absurd H (by simp)
      · rw [if_neg c3] at H
        have c3b0 : decide (x5_1 < (x0_1.length : Int)) = false := decide_eq_false c3
        clear c3
        simp only [Option.some.injEq, Prod.mk.injEq] at H
        obtain ⟨rfl, rfl⟩ := H
        obtain ⟨Ao9, co9, eo9, _⟩ := Kd.Q_slice HO_0.out
        subst eo9
        go_wp2
        go_ret
        exact ⟨by first | rfl | (simp [errW_none, errW_some] <;> rfl) | (simp [*, errW_none, errW_some] <;> rfl), by (with_reducible repeat (first | apply Kd.Q_alloc | apply Kd.Q_drewN | apply Kd.Q_drew)); exact HO_0.out, by repeat (first | (with_reducible first | exact HB.out | apply below_alloc | apply pw_below_drewN | apply below_drew1) | exact HB.out), by repeat (first | (with_reducible first | exact HK.out | apply Kept.alloc | apply Kept.drewN | apply Kept.drew) | exact HK.out)⟩
set_option maxHeartbeats 8000000 in
set_option maxRecDepth 100000 in
theorem laws_FnExactHookPolynomial.calls (k : Nat) (a0 : Int) (a1 : Int) (r : Bool) (w : World) (h : laws_FnExactHookPolynomial.f k a0 a1 = some r) :
    Calls Try.prog 4 #[.int .i64 a0, .int .i64 a1] w fun e w' => e = .returned (.bool r) ∧ Below w.heap.size w w' := by
  have HB := Aside0.mk (Below.refl w.heap.size w)
  have H : ((spec_HookPolynomial.f k a0 a1).bind fun bt256 => ((impl_HookPolynomial.f k a0 a1).bind fun bt260 => ((laws_eqIntS.f k bt260.1 bt256.1).bind fun t264 => (if t264 = true then (laws_FnExactHookPolynomial.j0 k a0 a1 bt256.1 bt256.2 bt260.1 (bt260.2 != bt256.2)) else (laws_FnExactHookPolynomial.j0 k a0 a1 bt256.1 bt256.2 bt260.1 true))))) = some r := h
  clear h
  replace H := Option.bind_eq_some_iff.mp H
  obtain ⟨⟨t256, t257⟩, A30, H⟩ := H
  replace H : ((impl_HookPolynomial.f k a0 a1).bind fun bt260 => ((laws_eqIntS.f k bt260.1 t256).bind fun t264 => (if t264 = true then (laws_FnExactHookPolynomial.j0 k a0 a1 t256 t257 bt260.1 (bt260.2 != t257)) else (laws_FnExactHookPolynomial.j0 k a0 a1 t256 t257 bt260.1 true)))) = some r := H
  have A3 := Aside0.mk A30
  clear A30
  replace H := Option.bind_eq_some_iff.mp H
  obtain ⟨⟨t260, t261⟩, A40, H⟩ := H
  replace H : ((laws_eqIntS.f k t260 t256).bind fun t264 => (if t264 = true then (laws_FnExactHookPolynomial.j0 k a0 a1 t256 t257 t260 (t261 != t257)) else (laws_FnExactHookPolynomial.j0 k a0 a1 t256 t257 t260 true))) = some r := H
  have A4 := Aside0.mk A40
  clear A40
  have HC5 := Aside0.mk H
  clear H
  go_enter Try.func4, Try.ntmps4
  go_upto_region 3 with (first | ((with_reducible refine gate_callee (f := 16) rfl ?_); refine goesL_ (some 16) rfl rfl Try.func16 (by kernel_rfl) rfl #[.int .i64 a0, .int .i64 a1] rfl (by (try simp only [List.map_toArray, List.map_cons, List.map_nil]); first | done | rfl | (simp only [List.length_drop, List.length_take]; rfl)) ?_; (with_reducible refine (spec_HookPolynomial.calls k a0 a1 t256 t257 _ A3.out).mono ?_); rintro e w6 ⟨v258, rfl, ho0, hb⟩; refine ⟨_, rfl, ?_⟩; have ho0 := Kd.Q_of_R ho0; have n0_ := Aside0.mk (Kd.Q_lower ho0 (below_size (by repeat (first | (with_reducible first | exact HB.out | apply below_alloc | apply pw_below_drewN | apply below_drew1) | exact HB.out)))); have n1_ := Aside0.mk (below_step (by repeat (first | (with_reducible first | exact HB.out | apply below_alloc | apply pw_below_drewN | apply below_drew1) | exact HB.out)) hb); clear HB; have HO259 := n0_; have HB := n1_; clear n0_ n1_; (try clear hb); (try clear hb2); (try clear hk); (try clear hi); (try clear ho0)) | ((with_reducible refine gate_callee (f := 17) rfl ?_); refine goesL_ (some 22) rfl rfl Try.func17 (by kernel_rfl) rfl #[.int .i64 a0, .int .i64 a1] rfl (by (try simp only [List.map_toArray, List.map_cons, List.map_nil]); first | done | rfl | (simp only [List.length_drop, List.length_take]; rfl)) ?_; (with_reducible refine (impl_HookPolynomial.calls k a0 a1 t260 t261 _ A4.out).mono ?_); rintro e w7 ⟨v262, rfl, ho0, hb⟩; refine ⟨_, rfl, ?_⟩; have n0_ := Aside0.mk (Kd.Q_elder' (by (with_reducible repeat (first | apply Kd.Q_alloc | apply Kd.Q_drewN | apply Kd.Q_drew)); exact HO259.out) (Kd.Q_base ho0) hb); have n1_ := Aside0.mk (Kd.Q_lower (Kd.Q_new' ho0 (Kd.Q_lt (by (with_reducible repeat (first | apply Kd.Q_alloc | apply Kd.Q_drewN | apply Kd.Q_drew)); exact HO259.out))) (below_size (by repeat (first | (with_reducible first | exact HB.out | apply below_alloc | apply pw_below_drewN | apply below_drew1) | exact HB.out)))); have n2_ := Aside0.mk (below_step (by repeat (first | (with_reducible first | exact HB.out | apply below_alloc | apply pw_below_drewN | apply below_drew1) | exact HB.out)) hb); clear HO259; clear HB; have HO259 := n0_; have HO263 := n1_; have HB := n2_; clear n0_ n1_ n2_; (try clear hb); (try clear hb2); (try clear hk); (try clear hi); (try clear ho0)))
  (try simp only [Act.put, List.setIfInBounds_toArray, List.set_cons_zero, List.set_cons_succ])
  go_cut [33] (fun v33 wc => ∃ (kq : Nat) (x33_4 : Bool), v33 = .bool x33_4 ∧ Aside0 (laws_FnExactHookPolynomial.j0 kq a0 a1 t256 t257 t260 x33_4 = some r) ∧ Aside0 (kq ≤ k) ∧ Aside0 (Kd.Q (Kd.int .i64) 3 wc w.heap.size (fun k_ => some k_ ≠ (v262 : Value).ownBlock) v258 t256) ∧ Aside0 (Kd.Q (Kd.int .i64) 3 wc w.heap.size (fun k_ => some k_ ≠ (v258 : Value).ownBlock) v262 t260) ∧ Aside0 (Below w.heap.size w wc))
  case first =>
    have H := HC5.out
    clear HC5
    replace H := Option.bind_eq_some_iff.mp H
    obtain ⟨t264, A80, H⟩ := H
    replace H : (if t264 = true then (laws_FnExactHookPolynomial.j0 k a0 a1 t256 t257 t260 (t261 != t257)) else (laws_FnExactHookPolynomial.j0 k a0 a1 t256 t257 t260 true)) = some r := H
    have A8 := Aside0.mk A80
    clear A80
    by_cases c9 : t264 = true
    · subst c9
      have H1 : (laws_FnExactHookPolynomial.j0 k a0 a1 t256 t257 t260 (t261 != t257)) = some r := by rw [if_pos rfl] at H; exact H
      clear H
      have H := H1
      clear H1
      have H' := Aside0.mk H
      clear H
      obtain ⟨Ao10, co10, eo10, _⟩ := Kd.Q_slice HO263.out
      subst eo10
      obtain ⟨Ao11, co11, eo11, _⟩ := Kd.Q_slice HO259.out
      subst eo11
      go_wp2_with (first | ((with_reducible refine gate_callee (f := 18) rfl ?_); refine goesL_ (some 27) rfl rfl Try.func18 (by kernel_rfl) rfl #[.slice Ao10 t260.length co10, .slice Ao11 t256.length co11] rfl (by (try simp only [List.map_toArray, List.map_cons, List.map_nil]); first | done | rfl | (simp only [List.length_drop, List.length_take]; rfl)) ?_; (with_reducible refine (laws_eqIntS.calls k _ _ t260 _ _ t256 true _ ?side1 ?side2 ?side3 ?side4 A8.out).mono ?_); (case side1 => repeat (first | exact (Kd.Q_reads' HO263.out).2.2 | (with_reducible refine Kd.C_alloc ?_ _) | (with_reducible refine Kd.C_drewN ?_ _) | (with_reducible refine Kd.C_drew ?_))); (case side2 => exact (Kd.Q_reads' HO263.out).2.1); (case side3 => repeat (first | exact (Kd.Q_reads' HO259.out).2.2 | (with_reducible refine Kd.C_alloc ?_ _) | (with_reducible refine Kd.C_drewN ?_ _) | (with_reducible refine Kd.C_drew ?_))); (case side4 => exact (Kd.Q_reads' HO259.out).2.1); rintro e w' ⟨rfl, ⟨nd, rfl⟩⟩; refine ⟨_, rfl, ?_⟩))
      go_meet
      case rel => exact ⟨_, ((t261 != t257)), (by first | rfl | (simp; done) | (simp [*]; done)), H', ⟨by first | omega | exact Nat.le_refl _⟩, ⟨by (with_reducible repeat (first | apply Kd.Q_alloc | apply Kd.Q_drewN | apply Kd.Q_drew)); exact Kd.Q_mono HO259.out (fun _ hk => hk.2)⟩, ⟨by (with_reducible repeat (first | apply Kd.Q_alloc | apply Kd.Q_drewN | apply Kd.Q_drew)); exact Kd.Q_mono HO263.out (fun _ hk => hk.2)⟩, ⟨by repeat (first | (with_reducible first | exact HB.out | apply below_alloc | apply pw_below_drewN | apply below_drew1) | exact HB.out)⟩⟩
    · replace c9 := Bool.eq_false_iff.mpr c9
      subst c9
      have H1 : (laws_FnExactHookPolynomial.j0 k a0 a1 t256 t257 t260 true) = some r := by rw [if_neg (show ¬ (false = true) by decide)] at H; exact H
      clear H
      have H := H1
      clear H1
      have H' := Aside0.mk H
      clear H
      obtain ⟨Ao12, co12, eo12, _⟩ := Kd.Q_slice HO263.out
      subst eo12
      obtain ⟨Ao13, co13, eo13, _⟩ := Kd.Q_slice HO259.out
      subst eo13
      go_wp2_with (first | ((with_reducible refine gate_callee (f := 18) rfl ?_); refine goesL_ (some 27) rfl rfl Try.func18 (by kernel_rfl) rfl #[.slice Ao12 t260.length co12, .slice Ao13 t256.length co13] rfl (by (try simp only [List.map_toArray, List.map_cons, List.map_nil]); first | done | rfl | (simp only [List.length_drop, List.length_take]; rfl)) ?_; (with_reducible refine (laws_eqIntS.calls k _ _ t260 _ _ t256 false _ ?side1 ?side2 ?side3 ?side4 A8.out).mono ?_); (case side1 => repeat (first | exact (Kd.Q_reads' HO263.out).2.2 | (with_reducible refine Kd.C_alloc ?_ _) | (with_reducible refine Kd.C_drewN ?_ _) | (with_reducible refine Kd.C_drew ?_))); (case side2 => exact (Kd.Q_reads' HO263.out).2.1); (case side3 => repeat (first | exact (Kd.Q_reads' HO259.out).2.2 | (with_reducible refine Kd.C_alloc ?_ _) | (with_reducible refine Kd.C_drewN ?_ _) | (with_reducible refine Kd.C_drew ?_))); (case side4 => exact (Kd.Q_reads' HO259.out).2.1); rintro e w' ⟨rfl, ⟨nd, rfl⟩⟩; refine ⟨_, rfl, ?_⟩))
      go_meet
      case rel => exact ⟨_, (true), (by first | rfl | (simp; done) | (simp [*]; done)), H', ⟨by first | omega | exact Nat.le_refl _⟩, ⟨by (with_reducible repeat (first | apply Kd.Q_alloc | apply Kd.Q_drewN | apply Kd.Q_drew)); exact Kd.Q_mono HO259.out (fun _ hk => hk.2)⟩, ⟨by (with_reducible repeat (first | apply Kd.Q_alloc | apply Kd.Q_drewN | apply Kd.Q_drew)); exact Kd.Q_mono HO263.out (fun _ hk => hk.2)⟩, ⟨by repeat (first | (with_reducible first | exact HB.out | apply below_alloc | apply pw_below_drewN | apply below_drew1) | exact HB.out)⟩⟩
  case rest =>
    clear HC5
    try clear c1
    try clear p2
    try clear c4
    try clear c9
    obtain ⟨kq, x33_4, rfl, HA, HJ4, HO_5, HO_7, HB⟩ := hcut
    cases kq with
    | zero => exact absurd HA.out (by simp [laws_FnExactHookPolynomial.j0])
    | succ kj4 =>
      have H := HA.out
      clear HA
      simp only [laws_FnExactHookPolynomial.j0] at H
      by_cases c14 : x33_4 = true
      · subst c14
        have H1 : (none) = some r := by rw [if_pos rfl] at H; exact H
        clear H
        have H := H1
        clear H1
        exact absurd H (by simp)
      · replace c14 := Bool.eq_false_iff.mpr c14
        subst c14
        have H1 : ((laws_markIntS.f kj4 t260 1).bind fun bt265 => ((laws_heldIntS.f kj4 bt265.2 1).bind fun t267 => (if t267 < 0 then (none) else (if t267 = bt265.1 then ((impl_HookPolynomial.f kj4 a0 a1).bind fun bt268 => ((laws_eqIntS.f kj4 bt268.1 t256).bind fun t272 => (if t272 = true then (laws_FnExactHookPolynomial.j1 kj4 bt265.2 bt265.1 (bt268.2 != t257)) else (laws_FnExactHookPolynomial.j1 kj4 bt265.2 bt265.1 true)))) else (none))))) = some r := by rw [if_neg (show ¬ (false = true) by decide)] at H; exact H
        clear H
        have H := H1
        clear H1
        replace H := Option.bind_eq_some_iff.mp H
        obtain ⟨⟨t265, t266⟩, A150, H⟩ := H
        replace H : ((laws_heldIntS.f kj4 t266 1).bind fun t267 => (if t267 < 0 then (none) else (if t267 = t265 then ((impl_HookPolynomial.f kj4 a0 a1).bind fun bt268 => ((laws_eqIntS.f kj4 bt268.1 t256).bind fun t272 => (if t272 = true then (laws_FnExactHookPolynomial.j1 kj4 t266 t265 (bt268.2 != t257)) else (laws_FnExactHookPolynomial.j1 kj4 t266 t265 true)))) else (none)))) = some r := H
        have A15 := Aside0.mk A150
        clear A150
        replace H := Option.bind_eq_some_iff.mp H
        obtain ⟨t267, A160, H⟩ := H
        replace H : (if t267 < 0 then (none) else (if t267 = t265 then ((impl_HookPolynomial.f kj4 a0 a1).bind fun bt268 => ((laws_eqIntS.f kj4 bt268.1 t256).bind fun t272 => (if t272 = true then (laws_FnExactHookPolynomial.j1 kj4 t266 t265 (bt268.2 != t257)) else (laws_FnExactHookPolynomial.j1 kj4 t266 t265 true)))) else (none))) = some r := H
        have A16 := Aside0.mk A160
        clear A160
        by_cases c17 : t267 < 0
        · rw [if_pos c17] at H
          exact absurd H (by simp)
        · rw [if_neg c17] at H
          have c17b0 : decide (t267 < 0) = false := decide_eq_false c17
          clear c17
          by_cases c18 : t267 = t265
          · rw [if_pos c18] at H
            have c18b0 : (t267 == t265) = true := beq_iff_eq.mpr c18
            have c18b1 : (t267 != t265) = false := bne_eq_false_iff_eq.mpr c18
            clear c18
            replace H := Option.bind_eq_some_iff.mp H
            obtain ⟨⟨t268, t269⟩, A190, H⟩ := H
            replace H : ((laws_eqIntS.f kj4 t268 t256).bind fun t272 => (if t272 = true then (laws_FnExactHookPolynomial.j1 kj4 t266 t265 (t269 != t257)) else (laws_FnExactHookPolynomial.j1 kj4 t266 t265 true))) = some r := H
            have A19 := Aside0.mk A190
            clear A190
            have HC20 := Aside0.mk H
            clear H
            obtain ⟨Ao21, co21, eo21, _⟩ := Kd.Q_slice HO_7.out
            subst eo21
            go_upto_region 14 with (first | ((with_reducible refine gate_callee (f := 19) rfl ?_); refine goesL_ (some 36) rfl rfl Try.func19 (by kernel_rfl) rfl #[.slice Ao21 t260.length co21, .int .i64 1] rfl (by (try simp only [List.map_toArray, List.map_cons, List.map_nil]); first | done | rfl | (simp only [List.length_drop, List.length_take]; rfl)) ?_; (with_reducible refine (laws_markIntS.callsQ kj4 (fun k_ => some k_ = (.slice Ao21 t260.length co21 : Value).ownBlock) (.slice Ao21 t260.length co21) t260 1 t265 t266 w _ ?side1 ?side2 A15.out).mono ?_); (case side1 => repeat (first | (with_reducible first | exact HB.out | apply below_alloc | apply pw_below_drewN | apply below_drew1) | exact HB.out)); (case side2 => exact Kd.Q_tight rfl HO_7.out); rintro e w22 ⟨rfl, hy0, hb, hkp⟩; refine ⟨_, rfl, ?_⟩; have n0_ := Aside0.mk (Kd.Q_mono (ok' := fun k_ => some k_ ≠ (.slice Ao21 t260.length co21 : Value).ownBlock) (Kd.Q_keptB (HO_5.out) hkp (fun k_ hk_ hs_ => (hk_) hs_)) (fun k_ hk_ => hk_.1)); have n1_ := Aside0.mk (Kd.Q_reok rfl hy0 (fun k_ e_ => HO_7.out.1 k_ e_)); have n2_ := Aside0.mk (hb); clear HO_5; clear HO_7; clear HB; have HO_5 := n0_; have HO_7 := n1_; have HB := n2_; clear n0_ n1_ n2_; (try clear hb); (try clear hkp); (try clear hy0)) | ((with_reducible refine gate_callee (f := 20) rfl ?_); refine goesL_ (some 39) rfl rfl Try.func20 (by kernel_rfl) rfl #[.slice Ao21 t266.length co21, .int .i64 1] rfl (by (try simp only [List.map_toArray, List.map_cons, List.map_nil]); first | done | (rw [show t266.length = t260.length from (Kd.Q_reads' HO_7.out).1.symm] <;> rfl) | rfl | (simp only [List.length_drop, List.length_take]; rfl)) ?_; (with_reducible refine (laws_heldIntS.calls kj4 _ _ t266 1 t267 _ ?side1 ?side2 A16.out).mono ?_); (case side1 => repeat (first | exact (Kd.Q_reads' HO_7.out).2.2 | (with_reducible refine Kd.C_alloc ?_ _) | (with_reducible refine Kd.C_drewN ?_ _) | (with_reducible refine Kd.C_drew ?_))); (case side2 => rw [show t266.length = t260.length from (Kd.Q_reads' HO_7.out).1.symm]; exact (Kd.Q_reads' HO_7.out).2.1); rintro e w' ⟨rfl, ⟨nd, rfl⟩⟩; refine ⟨_, rfl, ?_⟩) | ((with_reducible refine gate_callee (f := 17) rfl ?_); refine goesL_ (some 48) rfl rfl Try.func17 (by kernel_rfl) rfl #[.int .i64 a0, .int .i64 a1] rfl (by (try simp only [List.map_toArray, List.map_cons, List.map_nil]); first | done | rfl | (simp only [List.length_drop, List.length_take]; rfl)) ?_; (with_reducible refine (impl_HookPolynomial.calls kj4 a0 a1 t268 t269 _ A19.out).mono ?_); rintro e w23 ⟨v270, rfl, ho0, hb⟩; refine ⟨_, rfl, ?_⟩; have n0_ := Aside0.mk (Kd.Q_elder' (by (with_reducible repeat (first | apply Kd.Q_alloc | apply Kd.Q_drewN | apply Kd.Q_drew)); exact HO_5.out) (Kd.Q_base ho0) hb); have n1_ := Aside0.mk (Kd.Q_elder' (by (with_reducible repeat (first | apply Kd.Q_alloc | apply Kd.Q_drewN | apply Kd.Q_drew)); exact HO_7.out) (Kd.Q_base ho0) hb); have n2_ := Aside0.mk (Kd.Q_lower (Kd.Q_new' (Kd.Q_new' ho0 (Kd.Q_lt (by (with_reducible repeat (first | apply Kd.Q_alloc | apply Kd.Q_drewN | apply Kd.Q_drew)); exact HO_5.out))) (Kd.Q_lt (by (with_reducible repeat (first | apply Kd.Q_alloc | apply Kd.Q_drewN | apply Kd.Q_drew)); exact HO_7.out))) (below_size (by repeat (first | (with_reducible first | exact HB.out | apply below_alloc | apply pw_below_drewN | apply below_drew1) | exact HB.out)))); have n3_ := Aside0.mk (below_step (by repeat (first | (with_reducible first | exact HB.out | apply below_alloc | apply pw_below_drewN | apply below_drew1) | exact HB.out)) hb); clear HO_5; clear HO_7; clear HB; have HO_5 := n0_; have HO_7 := n1_; have HO271 := n2_; have HB := n3_; clear n0_ n1_ n2_ n3_; (try clear hb); (try clear hb2); (try clear hk); (try clear hi); (try clear ho0)))
            (try simp only [Act.put, List.setIfInBounds_toArray, List.set_cons_zero, List.set_cons_succ])
            go_cut [59] (fun v59 wc => ∃ (kq : Nat) (x59_19 : Bool), v59 = .bool x59_19 ∧ Aside0 (laws_FnExactHookPolynomial.j1 kq t266 t265 x59_19 = some r) ∧ Aside0 (kq ≤ kj4) ∧ Aside0 (Kd.Q (Kd.int .i64) 3 wc w.heap.size (fun _ => True) (.slice Ao21 t260.length co21) t266) ∧ Aside0 (Below w.heap.size w wc))
            case first =>
              have H := HC20.out
              clear HC20
              replace H := Option.bind_eq_some_iff.mp H
              obtain ⟨t272, A240, H⟩ := H
              replace H : (if t272 = true then (laws_FnExactHookPolynomial.j1 kj4 t266 t265 (t269 != t257)) else (laws_FnExactHookPolynomial.j1 kj4 t266 t265 true)) = some r := H
              have A24 := Aside0.mk A240
              clear A240
              by_cases c25 : t272 = true
              · subst c25
                have H1 : (laws_FnExactHookPolynomial.j1 kj4 t266 t265 (t269 != t257)) = some r := by rw [if_pos rfl] at H; exact H
                clear H
                have H := H1
                clear H1
                have H' := Aside0.mk H
                clear H
                obtain ⟨Ao26, co26, eo26, _⟩ := Kd.Q_slice HO271.out
                subst eo26
                obtain ⟨Ao27, co27, eo27, _⟩ := Kd.Q_slice HO_5.out
                subst eo27
                go_wp2_with (first | ((with_reducible refine gate_callee (f := 18) rfl ?_); refine goesL_ (some 53) rfl rfl Try.func18 (by kernel_rfl) rfl #[.slice Ao26 t268.length co26, .slice Ao27 t256.length co27] rfl (by (try simp only [List.map_toArray, List.map_cons, List.map_nil]); first | done | rfl | (simp only [List.length_drop, List.length_take]; rfl)) ?_; (with_reducible refine (laws_eqIntS.calls kj4 _ _ t268 _ _ t256 true _ ?side1 ?side2 ?side3 ?side4 A24.out).mono ?_); (case side1 => repeat (first | exact (Kd.Q_reads' HO271.out).2.2 | (with_reducible refine Kd.C_alloc ?_ _) | (with_reducible refine Kd.C_drewN ?_ _) | (with_reducible refine Kd.C_drew ?_))); (case side2 => exact (Kd.Q_reads' HO271.out).2.1); (case side3 => repeat (first | exact (Kd.Q_reads' HO_5.out).2.2 | (with_reducible refine Kd.C_alloc ?_ _) | (with_reducible refine Kd.C_drewN ?_ _) | (with_reducible refine Kd.C_drew ?_))); (case side4 => exact (Kd.Q_reads' HO_5.out).2.1); rintro e w' ⟨rfl, ⟨nd, rfl⟩⟩; refine ⟨_, rfl, ?_⟩))
                go_meet
                case rel => exact ⟨_, ((t269 != t257)), (by first | rfl | (simp; done) | (simp [*]; done)), H', ⟨by have := HJ4.out; first | omega | exact Nat.le_refl _⟩, ⟨by (with_reducible repeat (first | apply Kd.Q_alloc | apply Kd.Q_drewN | apply Kd.Q_drew)); exact Kd.Q_mono HO_7.out (fun _ hk => trivial)⟩, ⟨by repeat (first | (with_reducible first | exact HB.out | apply below_alloc | apply pw_below_drewN | apply below_drew1) | exact HB.out)⟩⟩
              · replace c25 := Bool.eq_false_iff.mpr c25
                subst c25
                have H1 : (laws_FnExactHookPolynomial.j1 kj4 t266 t265 true) = some r := by rw [if_neg (show ¬ (false = true) by decide)] at H; exact H
                clear H
                have H := H1
                clear H1
                have H' := Aside0.mk H
                clear H
                obtain ⟨Ao28, co28, eo28, _⟩ := Kd.Q_slice HO271.out
                subst eo28
                obtain ⟨Ao29, co29, eo29, _⟩ := Kd.Q_slice HO_5.out
                subst eo29
                go_wp2_with (first | ((with_reducible refine gate_callee (f := 18) rfl ?_); refine goesL_ (some 53) rfl rfl Try.func18 (by kernel_rfl) rfl #[.slice Ao28 t268.length co28, .slice Ao29 t256.length co29] rfl (by (try simp only [List.map_toArray, List.map_cons, List.map_nil]); first | done | rfl | (simp only [List.length_drop, List.length_take]; rfl)) ?_; (with_reducible refine (laws_eqIntS.calls kj4 _ _ t268 _ _ t256 false _ ?side1 ?side2 ?side3 ?side4 A24.out).mono ?_); (case side1 => repeat (first | exact (Kd.Q_reads' HO271.out).2.2 | (with_reducible refine Kd.C_alloc ?_ _) | (with_reducible refine Kd.C_drewN ?_ _) | (with_reducible refine Kd.C_drew ?_))); (case side2 => exact (Kd.Q_reads' HO271.out).2.1); (case side3 => repeat (first | exact (Kd.Q_reads' HO_5.out).2.2 | (with_reducible refine Kd.C_alloc ?_ _) | (with_reducible refine Kd.C_drewN ?_ _) | (with_reducible refine Kd.C_drew ?_))); (case side4 => exact (Kd.Q_reads' HO_5.out).2.1); rintro e w' ⟨rfl, ⟨nd, rfl⟩⟩; refine ⟨_, rfl, ?_⟩))
                go_meet
                case rel => exact ⟨_, (true), (by first | rfl | (simp; done) | (simp [*]; done)), H', ⟨by have := HJ4.out; first | omega | exact Nat.le_refl _⟩, ⟨by (with_reducible repeat (first | apply Kd.Q_alloc | apply Kd.Q_drewN | apply Kd.Q_drew)); exact Kd.Q_mono HO_7.out (fun _ hk => trivial)⟩, ⟨by repeat (first | (with_reducible first | exact HB.out | apply below_alloc | apply pw_below_drewN | apply below_drew1) | exact HB.out)⟩⟩
            case rest =>
              clear HC20
              try clear c1
              try clear c2
              try clear p2
              try clear c4
              try clear c9
              try clear c14
              try clear c16
              try clear c17
              try clear c17b0
              try clear c18
              try clear c18b0
              try clear c18b1
              try clear c19
              try clear c20
              try clear c25
              try clear p2
              obtain ⟨kq, x59_19, rfl, HA, HJ19, HO_7, HB⟩ := hcut
              have hl7_19 := (Kd.Q_reads' HO_7.out).1
              rw [hl7_19] at HO_7
              (try simp only [hl7_19])
              cases kq with
              | zero => exact absurd HA.out (by simp [laws_FnExactHookPolynomial.j1])
              | succ kj19 =>
                have H := HA.out
                clear HA
                simp only [laws_FnExactHookPolynomial.j1] at H
                by_cases c30 : x59_19 = true
                · subst c30
                  have H1 : (none) = some r := by rw [if_pos rfl] at H; exact H
                  clear H
                  have H := H1
                  clear H1
                  exact absurd H (by simp)
                · replace c30 := Bool.eq_false_iff.mpr c30
                  subst c30
                  have H1 : ((laws_heldIntS.f kj19 t266 1).bind fun t273 => (if t273 < 0 then (none) else (if t273 = t265 then (some true) else (none)))) = some r := by rw [if_neg (show ¬ (false = true) by decide)] at H; exact H
                  clear H
                  have H := H1
                  clear H1
                  replace H := Option.bind_eq_some_iff.mp H
                  obtain ⟨t273, A310, H⟩ := H
                  replace H : (if t273 < 0 then (none) else (if t273 = t265 then (some true) else (none))) = some r := H
                  have A31 := Aside0.mk A310
                  clear A310
                  by_cases c32 : t273 < 0
                  · rw [if_pos c32] at H
                    exact absurd H (by simp)
                  · rw [if_neg c32] at H
                    have c32b0 : decide (t273 < 0) = false := decide_eq_false c32
                    clear c32
                    by_cases c33 : t273 = t265
                    · rw [if_pos c33] at H
                      have c33b0 : (t273 == t265) = true := beq_iff_eq.mpr c33
                      have c33b1 : (t273 != t265) = false := bne_eq_false_iff_eq.mpr c33
                      clear c33
                      obtain rfl := Option.some.inj H
                      go_wp2_with (first | ((with_reducible refine gate_callee (f := 20) rfl ?_); refine goesL_ (some 62) rfl rfl Try.func20 (by kernel_rfl) rfl #[.slice Ao21 t266.length co21, .int .i64 1] rfl (by (try simp only [List.map_toArray, List.map_cons, List.map_nil]); first | done | rfl | (simp only [List.length_drop, List.length_take]; rfl)) ?_; (with_reducible refine (laws_heldIntS.calls kj19 _ _ t266 1 t273 _ ?side1 ?side2 A31.out).mono ?_); (case side1 => repeat (first | exact (Kd.Q_reads' HO_7.out).2.2 | (with_reducible refine Kd.C_alloc ?_ _) | (with_reducible refine Kd.C_drewN ?_ _) | (with_reducible refine Kd.C_drew ?_))); (case side2 => exact (Kd.Q_reads' HO_7.out).2.1); rintro e w' ⟨rfl, ⟨nd, rfl⟩⟩; refine ⟨_, rfl, ?_⟩))
                      go_ret
                      exact ⟨by first | rfl | (simp [errW_none, errW_some] <;> rfl) | (simp [*, errW_none, errW_some] <;> rfl), by repeat (first | (with_reducible first | exact HB.out | apply below_alloc | apply pw_below_drewN | apply below_drew1) | exact HB.out)⟩
                    · rw [if_neg c33] at H
                      exact absurd H (by simp)
          · rw [if_neg c18] at H
            exact absurd H (by simp)
def laws_FnExactHookPolynomial.Pure : Prop := ∀ (a0 : Int) (a1 : Int), (Lit.int .i64 a0).wf = true → (Lit.int .i64 a1).wf = true → ∃ k, laws_FnExactHookPolynomial.f k a0 a1 = some true
theorem laws_FnExactHookPolynomial.walk (P : laws_FnExactHookPolynomial.Pure) (a0 : Int) (a1 : Int) (w : World) (w0 : (Lit.int .i64 a0).wf = true) (w1 : (Lit.int .i64 a1).wf = true) :
    Calls Try.prog 4 #[.int .i64 a0, .int .i64 a1] w fun e w' => e = .returned (.bool true) ∧ Below w.heap.size w w' := by
  obtain ⟨k, h⟩ := P a0 a1 w0 w1
  refine (laws_FnExactHookPolynomial.calls k a0 a1 true w h).mono ?_
  rintro e w' ⟨rfl, hd⟩
  exact ⟨rfl, hd⟩
end Go.Proofs.Ytldbabadbggleaa.L
end
section
namespace Go.Proofs.Ytldbabadbggleaa.L
open Go.RowKit Go.Proofs.YtldbabadbggleaaW.PrintWords Go.Proofs.YtldbabadbggleaaW.PrintLast
def laws_FnExactHookPolynomial.Pure2 : Prop := ∀ (a0 : Int) (a1 : Int), (Lit.int .i64 a0).wf = true → (Lit.int .i64 a1).wf = true → ∃ k, laws_FnExactHookPolynomial.f k a0 a1 = some true
end Go.Proofs.Ytldbabadbggleaa.L
end
section
namespace Go.Proofs.Ytldbabadbggleaa.M
open Go.RowKit Go.Proofs.YtldbabadbggleaaW.PrintWords Go.Proofs.YtldbabadbggleaaW.PrintLast Go.Proofs.YtldbabadbggleaaW.PrintMore
theorem wrap_id {x : Int} (h0 : -9223372036854775808 ≤ x) (h1 : x ≤ 9223372036854775807) : wrap64 x = x := by unfold wrap64; omega
theorem wrap_succ {i : Nat} (h : i < 9223372036854775807) : wrap64 ((i : Int) + 1) = ((i + 1 : Nat) : Int) := by unfold wrap64; omega
theorem rd_get {l : List Int} {i : Nat} (h : i < l.length) : rd l (i : Int) = l[i] := by simp [rd, List.getD_eq_getElem?_getD, h]
theorem ev_ite {α : Type} {c : Prop} [Decidable c] {f g : Nat → Option α} {r : α} (h1 : c → Ev f r) (h2 : ¬ c → Ev g r) : Ev (fun k => if c then f k else g k) r := by
  by_cases h : c
  · obtain ⟨K, hK⟩ := h1 h; exact ⟨K, fun k hk => by simp only [if_pos h]; exact hK k hk⟩
  · obtain ⟨K, hK⟩ := h2 h; exact ⟨K, fun k hk => by simp only [if_neg h]; exact hK k hk⟩
theorem ev_pos {α : Type} {c : Prop} [Decidable c] {f g : Nat → Option α} {r : α} (h : c) (h1 : Ev f r) : Ev (fun k => if c then f k else g k) r := ev_ite (fun _ => h1) (fun h2 => absurd h h2)
theorem ev_neg {α : Type} {c : Prop} [Decidable c] {f g : Nat → Option α} {r : α} (h : ¬ c) (h1 : Ev g r) : Ev (fun k => if c then f k else g k) r := ev_ite (fun h2 => absurd h2 h) (fun _ => h1)
theorem ev_call {α β : Type} {x : Option α} {a : α} {f : Nat → α → Option β} {r : β} (h : x = some a) (k : Ev (fun n => f n a) r) : Ev (fun n => x.bind (f n)) r := by subst h; simpa using k
def inB (x lo hi : Int) : Bool := decide (lo ≤ x) && decide (x ≤ hi)
theorem inB_iff {x lo hi : Int} : inB x lo hi = true ↔ lo ≤ x ∧ x ≤ hi := by simp [inB]
end Go.Proofs.Ytldbabadbggleaa.M
end
section
namespace Go.Proofs.Ytldbabadbggleaa.M
open Go.RowKit Go.Proofs.YtldbabadbggleaaW.PrintWords Go.Proofs.YtldbabadbggleaaW.PrintLast Go.Proofs.YtldbabadbggleaaW.PrintMore Go.Proofs.Ytldbabadbggleaa.L
theorem eqIntS_l0 (a b : List Int) (hl : a.length ≤ 9223372036854775806) (hab : a.length = b.length) : ∀ (d i : Nat), i + d = a.length → Ev (fun k => laws_eqIntS.l0 k a b i) (decide (a.drop i = b.drop i))
  | 0, i, h => by
    have h1 : ¬ ((i : Int) < (a.length : Int)) := by omega
    refine Ev.step (fun _ => rfl) (ev_neg h1 ?_)
    rw [List.drop_of_length_le (by omega), List.drop_of_length_le (by omega)]
    exact Ev.now _
  | d + 1, i, h => by
    have h1 : (i : Int) < (a.length : Int) := by omega
    refine Ev.step (fun _ => rfl) (ev_pos h1 (ev_pos (by omega) (ev_pos (by omega) ?_)))
    rw [wrap_succ (by omega), rd_get (by omega : i < a.length), rd_get (by omega : i < b.length)]
    rw [List.drop_eq_getElem_cons (by omega : i < a.length), List.drop_eq_getElem_cons (by omega : i < b.length)]
    refine ev_ite (fun e => ?_) (fun e => ?_)
    · rw [decide_eq_decide.mpr (show (a[i] :: a.drop (i + 1) = b[i] :: b.drop (i + 1)) ↔ a.drop (i + 1) = b.drop (i + 1) by rw [List.cons.injEq]; exact ⟨fun z => z.2, fun z => ⟨e, z⟩⟩)]
      exact eqIntS_l0 a b hl hab d (i + 1) (by omega)
    · rw [decide_eq_false (show ¬ (a[i] :: a.drop (i + 1) = b[i] :: b.drop (i + 1)) by rw [List.cons.injEq]; exact fun z => e z.1)]
      exact Ev.now false
theorem eqIntS_ev (a b : List Int) (hl : a.length ≤ 9223372036854775806) : Ev (fun k => laws_eqIntS.f k a b) (decide (a = b)) := by
  refine ev_ite (fun e => ?_) (fun e => ?_)
  · simpa using eqIntS_l0 a b hl (by omega) a.length 0 (by omega)
  · have : ¬ a = b := fun z => e (by rw [z])
    simpa [this] using Ev.now false
def marks (q : Nat) (n : Nat) : List Int := (List.range' q n).map Int.ofNat
theorem marks_len (q n : Nat) : (marks q n).length = n := by simp [marks]
theorem marks_get (q n i : Nat) (h : i < (marks q n).length) : (marks q n)[i] = ((q + i : Nat) : Int) := by simp [marks]
theorem markIntS_l0 (n : Nat) (hn : n ≤ 4611686018427387903) (q : Nat) (hq : q ≤ 4611686018427387903) : ∀ (d i : Nat) (acc : List Int), i + d = n → acc.length = n → (∀ j (hj : j < acc.length), j < i → acc[j] = ((q + j : Nat) : Int)) →
    Ev (fun k => laws_markIntS.l0 k acc ((q + i : Nat) : Int) i) (((q + n : Nat) : Int), marks q n)
  | 0, i, acc, h, ha, hm => by
    have h1 : ¬ ((i : Int) < (acc.length : Int)) := by omega
    refine Ev.step (fun _ => rfl) (ev_neg h1 ?_)
    have e : acc = marks q n := List.ext_getElem (by rw [ha, marks_len]) (fun j h1 h2 => by rw [hm j h1 (by omega), marks_get])
    have e2 : i = n := by omega
    rw [e, e2]; exact Ev.now _
  | d + 1, i, acc, h, ha, hm => by
    have h1 : (i : Int) < (acc.length : Int) := by omega
    refine Ev.step (fun _ => rfl) (ev_pos h1 (ev_pos (by omega) ?_))
    rw [wrap_succ (by omega), wrap_succ (by omega), Int.toNat_natCast]
    refine markIntS_l0 n hn q hq d (i + 1) (acc.set i ((q + i : Nat) : Int)) (by omega) (by simp [ha]) (fun j hj hji => ?_)
    by_cases e : j = i
    · subst e; simp
    · rw [List.getElem_set_ne (by omega)]; exact hm j _ (by omega)
theorem markIntS_ev (l : List Int) (q : Nat) (hl : l.length ≤ 4611686018427387903) (hq : q ≤ 4611686018427387903) : Ev (fun k => laws_markIntS.f k l (q : Int)) (((q + l.length : Nat) : Int), marks q l.length) :=
  markIntS_l0 l.length hl q hq l.length 0 l (by omega) rfl (fun j _ h => by omega)
theorem heldIntS_l0 (q n : Nat) (hn : n ≤ 4611686018427387903) (hq : q ≤ 4611686018427387903) : ∀ (d i : Nat), i + d = n → Ev (fun k => laws_heldIntS.l0 k (marks q n) ((q + i : Nat) : Int) i) ((q + n : Nat) : Int)
  | 0, i, h => by
    have hm := marks_len q n
    have h1 : ¬ ((i : Int) < ((marks q n).length : Int)) := by omega
    refine Ev.step (fun _ => rfl) (ev_neg h1 ?_)
    have e2 : i = n := by omega
    rw [e2]; exact Ev.now _
  | d + 1, i, h => by
    have hm := marks_len q n
    have h1 : (i : Int) < ((marks q n).length : Int) := by omega
    refine Ev.step (fun _ => rfl) (ev_pos h1 (ev_pos (by omega) (ev_pos ?_ ?_)))
    · rw [rd_get (by omega), marks_get]
    · rw [wrap_succ (by omega), wrap_succ (by omega)]
      exact heldIntS_l0 q n hn hq d (i + 1) (by omega)
theorem heldIntS_ev (q n : Nat) (hn : n ≤ 4611686018427387903) (hq : q ≤ 4611686018427387903) : Ev (fun k => laws_heldIntS.f k (marks q n) (q : Int)) ((q + n : Nat) : Int) :=
  heldIntS_l0 q n hn hq n 0 (by omega)
theorem l1In_eq (x lo hi : Int) : spec_l1In.f x lo hi = some (inB x lo hi) := by
  unfold spec_l1In.f inB
  by_cases h : lo ≤ x <;> simp [h]
theorem within_eq (x lo hi : Int) : impl_within.f x lo hi = some (inB x lo hi) := by
  unfold impl_within.f inB
  by_cases h : lo ≤ x <;> simp [h]
end Go.Proofs.Ytldbabadbggleaa.M
end
section
namespace Go.Proofs.Ytldbabadbggleaa.M
open Go.RowKit Go.Proofs.YtldbabadbggleaaW.PrintWords Go.Proofs.YtldbabadbggleaaW.PrintLast Go.Proofs.YtldbabadbggleaaW.PrintMore Go.Proofs.Ytldbabadbggleaa.L
set_option linter.unusedVariables false
def sidesB (a b : Int) : Bool := inB a 1 10 && inB b 1 10 && decide (a * b ≤ 10)
theorem mul_small {a b : Int} (h1 : inB a 1 10 = true) (h2 : inB b 1 10 = true) : wrap64 (a * b) = a * b := by
  have b1 := inB_iff.mp h1
  have b2 := inB_iff.mp h2
  have h3 : 0 ≤ a * b := Int.mul_nonneg (by omega) (by omega)
  have h4 : a * b ≤ 10 * 10 := Int.mul_le_mul b1.2 b2.2 (by omega) (by omega)
  exact wrap_id (by omega) (by omega)
theorem shSides_eq (a b : Int) : spec_shSides.f a b = some (sidesB a b) := by
  unfold spec_shSides.f sidesB
  rw [l1In_eq, l1In_eq]
  cases h1 : inB a 1 10
  · rfl
  · cases h2 : inB b 1 10
    · rfl
    · rw [mul_small h1 h2]; rfl
theorem areSides_eq (a b : Int) : impl_areSides.f a b 10 = some (sidesB a b) := by
  unfold impl_areSides.f sidesB
  rw [within_eq, within_eq]
  cases h1 : inB a 1 10
  · rfl
  · cases h2 : inB b 1 10
    · rfl
    · rw [mul_small h1 h2]; rfl
def hookB (a b : Int) : Bool := match spec_HookPolynomial.f 1200 a b, impl_HookPolynomial.f 1200 a b with
  | some r, some s => r == s && decide (r.1.length ≤ 1000)
  | _, _ => false
theorem hk1_1 : hookB 1 1 = true := by decide +kernel
theorem hk1_2 : hookB 1 2 = true := by decide +kernel
theorem hk1_3 : hookB 1 3 = true := by decide +kernel
theorem hk1_4 : hookB 1 4 = true := by decide +kernel
theorem hk1_5 : hookB 1 5 = true := by decide +kernel
theorem hk1_6 : hookB 1 6 = true := by decide +kernel
theorem hk1_7 : hookB 1 7 = true := by decide +kernel
theorem hk1_8 : hookB 1 8 = true := by decide +kernel
theorem hk1_9 : hookB 1 9 = true := by decide +kernel
theorem hk1_10 : hookB 1 10 = true := by decide +kernel
theorem hk2_1 : hookB 2 1 = true := by decide +kernel
theorem hk2_2 : hookB 2 2 = true := by decide +kernel
theorem hk2_3 : hookB 2 3 = true := by decide +kernel
theorem hk2_4 : hookB 2 4 = true := by decide +kernel
theorem hk2_5 : hookB 2 5 = true := by decide +kernel
theorem hk3_1 : hookB 3 1 = true := by decide +kernel
theorem hk3_2 : hookB 3 2 = true := by decide +kernel
theorem hk3_3 : hookB 3 3 = true := by decide +kernel
theorem hk4_1 : hookB 4 1 = true := by decide +kernel
theorem hk4_2 : hookB 4 2 = true := by decide +kernel
theorem hk5_1 : hookB 5 1 = true := by decide +kernel
theorem hk5_2 : hookB 5 2 = true := by decide +kernel
theorem hk6_1 : hookB 6 1 = true := by decide +kernel
theorem hk7_1 : hookB 7 1 = true := by decide +kernel
theorem hk8_1 : hookB 8 1 = true := by decide +kernel
theorem hk9_1 : hookB 9 1 = true := by decide +kernel
theorem hk10_1 : hookB 10 1 = true := by decide +kernel
theorem hk_of {a b : Int} (h : sidesB a b = true) : hookB a b = true := by
  unfold sidesB at h
  rw [Bool.and_eq_true, Bool.and_eq_true, inB_iff, inB_iff, decide_eq_true_eq] at h
  obtain ⟨⟨h1, h2⟩, h3⟩ := h
  obtain rfl | rfl | rfl | rfl | rfl | rfl | rfl | rfl | rfl | rfl : a = 1 ∨ a = 2 ∨ a = 3 ∨ a = 4 ∨ a = 5 ∨ a = 6 ∨ a = 7 ∨ a = 8 ∨ a = 9 ∨ a = 10 := by omega
  · obtain rfl | rfl | rfl | rfl | rfl | rfl | rfl | rfl | rfl | rfl : b = 1 ∨ b = 2 ∨ b = 3 ∨ b = 4 ∨ b = 5 ∨ b = 6 ∨ b = 7 ∨ b = 8 ∨ b = 9 ∨ b = 10 := by omega
    · exact hk1_1
    · exact hk1_2
    · exact hk1_3
    · exact hk1_4
    · exact hk1_5
    · exact hk1_6
    · exact hk1_7
    · exact hk1_8
    · exact hk1_9
    · exact hk1_10
  · obtain rfl | rfl | rfl | rfl | rfl : b = 1 ∨ b = 2 ∨ b = 3 ∨ b = 4 ∨ b = 5 := by omega
    · exact hk2_1
    · exact hk2_2
    · exact hk2_3
    · exact hk2_4
    · exact hk2_5
  · obtain rfl | rfl | rfl : b = 1 ∨ b = 2 ∨ b = 3 := by omega
    · exact hk3_1
    · exact hk3_2
    · exact hk3_3
  · obtain rfl | rfl : b = 1 ∨ b = 2 := by omega
    · exact hk4_1
    · exact hk4_2
  · obtain rfl | rfl : b = 1 ∨ b = 2 := by omega
    · exact hk5_1
    · exact hk5_2
  · obtain rfl : b = 1 := by omega
    exact hk6_1
  · obtain rfl : b = 1 := by omega
    exact hk7_1
  · obtain rfl : b = 1 := by omega
    exact hk8_1
  · obtain rfl : b = 1 := by omega
    exact hk9_1
  · obtain rfl : b = 1 := by omega
    exact hk10_1
theorem agree_FnExactHookPolynomial (a b : Int) : ∃ r : List Int × Bool, r.1.length ≤ 1000 ∧ Ev (fun k => spec_HookPolynomial.f k a b) r ∧ Ev (fun k => impl_HookPolynomial.f k a b) r := by
  by_cases h : sidesB a b = true
  · have hg := hk_of h
    unfold hookB at hg
    split at hg
    · rename_i r s h1 h2
      rw [Bool.and_eq_true, beq_iff_eq, decide_eq_true_eq] at hg
      obtain ⟨rfl, hl⟩ := hg
      exact ⟨r, hl, Ev.of (spec_HookPolynomial.mono a b) h1, Ev.of (impl_HookPolynomial.mono a b) h2⟩
    · cases hg
  · refine ⟨([], false), Nat.zero_le _, ev_call (shSides_eq a b) (ev_neg h (Ev.now _)), ?_⟩
    exact ev_call (areSides_eq a b) (ev_neg h (Ev.now _))
end Go.Proofs.Ytldbabadbggleaa.M
end
section
namespace Go.Proofs.Ytldbabadbggleaa.M
open Go.RowKit Go.Proofs.YtldbabadbggleaaW.PrintWords Go.Proofs.YtldbabadbggleaaW.PrintLast Go.Proofs.YtldbabadbggleaaW.PrintMore Go.Proofs.Ytldbabadbggleaa.L
theorem eqIntS_refl (a : List Int) (hl : a.length ≤ 9223372036854775806) : Ev (fun k => laws_eqIntS.f k a a) true := by simpa using eqIntS_ev a a hl
end Go.Proofs.Ytldbabadbggleaa.M
end
section
namespace Go.Proofs.Ytldbabadbggleaa.Pure
open Go.RowKit Go.Proofs.YtldbabadbggleaaW.PrintWords Go.Proofs.YtldbabadbggleaaW.PrintLast Go.Proofs.YtldbabadbggleaaW.PrintMore Go.Proofs.Ytldbabadbggleaa.L Go.Proofs.Ytldbabadbggleaa.M
theorem FnExactHookPolynomial : laws_FnExactHookPolynomial.Pure2 := by
  intro a0 a1 w0 w1
  refine Ev.rounds ?_
  unfold laws_FnExactHookPolynomial.f
  obtain ⟨r, hr, hs, hi⟩ := agree_FnExactHookPolynomial a0 a1
  have Er := eqIntS_refl r.1 (by omega)
  have Mr := markIntS_ev r.1 1 (by omega) (by omega)
  have Hr := heldIntS_ev 1 r.1.length (by omega) (by omega)
  repeat' first
    | with_reducible exact Ev.now true
    | with_reducible refine Ev.bind hs ?_
    | with_reducible refine Ev.bind hi ?_
    | with_reducible refine Ev.bind Er ?_
    | with_reducible refine Ev.bind Mr ?_
    | with_reducible refine Ev.bind Hr ?_
    | with_reducible refine Ev.step (fun _ => laws_FnExactHookPolynomial.j0.eq_2 ..) ?_
    | with_reducible refine Ev.step (fun _ => laws_FnExactHookPolynomial.j1.eq_2 ..) ?_
    | with_reducible refine ev_pos rfl ?_
    | (with_reducible refine ev_neg ?h ?_; case h => first | (simp; done) | omega | (simp only; omega) | (simp; omega))
end Go.Proofs.Ytldbabadbggleaa.Pure
end
section
namespace Go.Proofs.Ytldbabadbggleaa.R
open Go.ChangeShapes Go.WideShapes Go.ChangeAt Go.RowKit
open Go.ChangeMaps (open_string shut_string)
set_option linter.unusedVariables false
def IsRow (k : IntKind) (w : World) (a : Option Addr) (len cap : Nat) (zs : List Int) : Prop :=
  (a = none ∧ len = 0 ∧ cap = 0 ∧ zs = []) ∨
  ∃ x, a = some x ∧ len ≤ cap ∧ cap ≤ maxLen ∧ zs.length = cap ∧ (∀ i, i < zs.length → w.cell? (x.add i) = some (.int k (zs.getD i 0))) ∧ ∀ n ∈ zs, (Lit.int k n).wf = true
variable {H : Type} {enc : TypeId × Value → H} {P : Program} {W : World} {base : Nat} {ps : List MemPlace}
theorem row_of {t e : TypeId} {k : IntKind} {fuel : Nat} {c : Value} {y : DataW H × List MemPlace} (hu : P.underlying t = some (.slice e)) (he : P.underlying e = some (.int k)) (hc : P.cellsOf e = 1)
    (hf : DataW.trod enc P W 0 (fun _ => true) true fuel t [c] = some y) : ∃ a len cap zs, c = .slice a len cap ∧ IsRow k W a len cap zs := by
  rcases open_ints hu he hc hf with ⟨hcs, _⟩ | ⟨x, l, c', zs, hcs, _, hl, hm, hz, _, hcell, hwz⟩
  · simp only [List.cons.injEq, and_true] at hcs
    subst hcs
    exact ⟨_, _, _, [], rfl, .inl ⟨rfl, rfl, rfl, rfl⟩⟩
  · simp only [List.cons.injEq, and_true] at hcs
    subst hcs
    exact ⟨_, _, _, zs, rfl, .inr ⟨_, rfl, hl, hm, by simpa using hz, hcell, hwz⟩⟩
theorem array1 {α : Type} {cs : Array α} (h : cs.size = 1) : ∃ c0, cs = #[c0] := by
  obtain ⟨l⟩ := cs
  match l, h with
  | [c0], _ => exact ⟨c0, rfl⟩
theorem open_poset {r : Reach} {t e : TypeId} {f : Field} {v : Value} {d : DataW H} (hs : P.underlying t = some (.struct #[f])) (ho : f.offset = 0) (hC : P.cellsOf t = 1) (hfc : P.cellsOf f.type = 1) (hu : P.underlying f.type = some (.slice e)) (he : P.underlying e = some (.int .i64)) (hc : P.cellsOf e = 1)
    (hv : Value.okWide P W r base t v) (h : DataW.Trod enc P W 0 (fun _ => true) true t v d ps) : ∃ a len cap zs, v = .agg #[.slice a len cap] ∧ IsRow .i64 W a len cap zs := by
  obtain ⟨cs, rfl, hsz⟩ := okWide_struct hs hv
  obtain ⟨c0, rfl⟩ := array1 (hsz.trans hC)
  obtain ⟨fuel, hf⟩ := h
  obtain ⟨y0, n, _, _, h0⟩ := trod_struct1 hs hf
  rw [ho, hfc] at h0
  obtain ⟨a, len, cap, zs, rfl, hz⟩ := row_of hu he hc (by simpa [Value.cells] using h0)
  exact ⟨a, len, cap, zs, rfl, hz⟩
theorem open_desk {r : Reach} {t e : TypeId} {f f1 g : Field} {v : Value} {d : DataW H} (hs : P.underlying t = some (.struct #[f, f1])) (ho : f.offset = 0) (ho1 : f1.offset = 1) (hC : P.cellsOf t = 2) (hfc : P.cellsOf f.type = 1) (hfc1 : P.cellsOf f1.type = 1)
    (hs2 : P.underlying f.type = some (.struct #[g])) (hgo : g.offset = 0) (hgc : P.cellsOf g.type = 1) (hu : P.underlying g.type = some (.slice e)) (he : P.underlying e = some (.int .i64)) (hc : P.cellsOf e = 1) (hi : P.underlying f1.type = some (.int .i64))
    (hv : Value.okWide P W r base t v) (h : DataW.Trod enc P W 0 (fun _ => true) true t v d ps) : ∃ a len cap zs x, v = .agg #[.slice a len cap, .int .i64 x] ∧ IsRow .i64 W a len cap zs ∧ (Lit.int .i64 x).wf = true := by
  obtain ⟨cs, rfl, hsz⟩ := okWide_struct hs hv
  obtain ⟨c0, c1, rfl⟩ := Joins.array2 (hsz.trans hC)
  obtain ⟨fuel, hf⟩ := h
  obtain ⟨y0, y1, n, _, _, h0, h1⟩ := trod_struct2 hs hf
  rw [ho, hfc] at h0
  rw [ho1, hfc1] at h1
  obtain ⟨z0, m, _, _, h00⟩ := trod_struct1 hs2 h0
  rw [hgo, hgc] at h00
  obtain ⟨a, len, cap, zs, rfl, hz⟩ := row_of hu he hc (by simpa [Value.cells] using h00)
  obtain ⟨x, e0, e1, wx⟩ := DataW.trod_int hi h1
  simp [Value.cells] at e0
  subst e0
  exact ⟨a, len, cap, zs, x, rfl, hz, wx⟩
end Go.Proofs.Ytldbabadbggleaa.R
end
