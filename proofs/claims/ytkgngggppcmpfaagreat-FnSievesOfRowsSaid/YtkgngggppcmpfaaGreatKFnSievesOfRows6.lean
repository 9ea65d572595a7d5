/- Laws about the given program: the law FnSievesOfRows answers true for every input that its row lets in; no condition is added to the given statement. Contracts of the Go functions that it reaches, and the plain proof over lists. -/
import Derived.Test.YtkgngggppcmpfaaGreatWFnSievesOfRows0
import Derived.Test.YtkgngggppcmpfaaGreatKFnSievesOfRows0
import Derived.Test.YtkgngggppcmpfaaGreatKFnSievesOfRows1
import Derived.Test.YtkgngggppcmpfaaGreatKFnSievesOfRows2
import Derived.Test.YtkgngggppcmpfaaGreatKFnSievesOfRows3
import Derived.Test.YtkgngggppcmpfaaGreatKFnSievesOfRows4
import Derived.Test.YtkgngggppcmpfaaGreatKFnSievesOfRows5
section
namespace Go.Proofs.YtkgngggppcmpfaaGreat.L
open Go.RowKit Go.Proofs.YtkgngggppcmpfaaGreatW.PrintWords Go.Proofs.YtkgngggppcmpfaaGreatW.PrintLast Go.Proofs.YtkgngggppcmpfaaGreatW.PrintMore Go.Proofs.YtkgngggppcmpfaaGreat.X
attribute [local go_sem] max2_int min2_int max_two min_two max_three min_three max_four min_four
set_option linter.unusedVariables false
set_option linter.unusedSimpArgs false
def impl_divisors.l0 : Nat → Int → List Int → Int → Option (List Int)
  | 0, _, _, _ => none
  | k + 1, x0, x3, x4 => if x4 ≤ x0 then (if x4 = 0 then (none) else (if (Int.tmod x0 x4) = 0 then (if x3.length < 17592186044416 then (impl_divisors.l0 k x0 (x3 ++ [x4]) (wrap64 (x4 + 1))) else (none)) else (impl_divisors.l0 k x0 x3 (wrap64 (x4 + 1))))) else (some x3)
def impl_divisors.f (k : Nat) (a0 : Int) : Option (List Int) := impl_divisors.l0 k a0 (([] : List Int)) 1
theorem impl_divisors.mono_l : ∀ k, (∀ y0 y1 y2, LeO (impl_divisors.l0 k y0 y1 y2) (impl_divisors.l0 (k + 1) y0 y1 y2))
  | 0 => fun _ _ _ r h => by simp [impl_divisors.l0] at h
  | k + 1 => by
    have ih0 := impl_divisors.mono_l k
    · intro y0 y1 y2
      unfold impl_divisors.l0
      repeat' first
      | (with_reducible exact ih0 _ _ _)
      | (with_reducible exact LeO.refl _)
      | (with_reducible exact LeO.none _)
      | (with_reducible refine LeO.ite ?_ ?_)
      | (with_reducible refine LeO.bind ?_ (fun _ => ?_))
      | exact ih0 _ _ _
      | exact LeO.none _
      | refine LeO.ite ?_ ?_
      | refine LeO.bind ?_ (fun _ => ?_)
theorem impl_divisors.mono : ∀ a0 k, LeO (impl_divisors.f k a0) (impl_divisors.f (k + 1) a0) := by
  intro a0 k
  have ih0 := impl_divisors.mono_l k
  unfold impl_divisors.f
  repeat' (with_reducible first | apply ih0 | exact LeO.refl _ | exact LeO.none _ | refine LeO.ite ?_ ?_ | refine LeO.bind ?_ (fun _ => ?_))
set_option maxHeartbeats 8000000 in
set_option maxRecDepth 100000 in
theorem impl_divisors.calls (k : Nat) (a0 : Int) (r : List Int) (w : World) (h : impl_divisors.f k a0 = some r) :
    Calls Tryz.prog 221 #[.int .i64 a0] w fun e w' => ∃ v0_ : Value, e = .returned (v0_) ∧ Kd.R (Kd.int .i64) 3 w' w.heap.size (fun _ => True) v0_ r ∧ Below w.heap.size w w' := by
  have HB := Aside0.mk (Below.refl w.heap.size w)
  have H : (impl_divisors.l0 k a0 (([] : List Int)) 1) = some r := h
  clear h
  obtain ⟨y594, hy594⟩ : ∃ y_ : List Int, y_ = (([] : List Int)) := ⟨_, rfl⟩
  replace H : (impl_divisors.l0 k a0 y594 1) = some r := by first | (rw [hy594]; with_reducible exact H) | (have H2_ := (Option.bind_some _ _).symm.trans H; rw [hy594]; with_reducible exact H2_) | (have H2_ := (Option.bind_some _ _).symm.trans H; with_reducible exact H2_) | with_reducible exact H | (rw [hy594]; exact H) | exact H
  have Ny594 := Aside0.mk hy594
  clear hy594
  have H' := Aside0.mk H
  clear H
  go_enter Tryz.func221, Tryz.ntmps221
  go_wp2_with (first | ((with_reducible refine gate_dst (N := 5) rfl ?_); refine Kd.R_lit (Kd.int .i64) _ 3 ?hg (N := 5) ?hd (xs := ([] : List Int)) (inner := []) (ok := fun _ => True) (okp := fun _ => True) ?hr ?hp (fun _ hk => hk) trivial (Below.refl _ _) (Nat.le_refl _) (by simp) ?_; (case hd => rfl); (case hg => rfl); (case hr => first | (go_simp; done) | (go_simp; rfl)); (case hp => exact (Reps.none _ _)); intro v595 w2 ho3 hb hg_ hnew_; clear hg_ hnew_; (first | rw [← Ny594.out] at ho3 | (simp only [Int.reduceToNat] at ho3; rw [← Ny594.out] at ho3)); have n0_ := Aside0.mk (Kd.R_lower ho3 (below_size (uB HB))); have n1_ := Aside0.mk (below_step (uB HB) hb); clear HB; have HO596 := n0_; have HB := n1_; clear n0_ n1_; clear hb ho3))
  go_loopg [3, 4] k (fun kq v3 v4 w' => ∃ (x3_1 : List Int) (x4_1 : Int), v4 = .int .i64 x4_1 ∧ Aside0 (impl_divisors.l0 kq a0 x3_1 x4_1 = some r) ∧ Aside0 (kq ≤ k) ∧ Aside0 (Kd.R (Kd.int .i64) 3 w' w.heap.size (fun _ => True) v3 x3_1) ∧ Aside0 (Below w.heap.size w w'))
  case atStart => exact ⟨(y594), (1), (by first | rfl | (simp; done) | (simp [*]; done)), H', ⟨Nat.le_refl _⟩, ⟨uR HO596⟩, ⟨uB HB⟩⟩
  case round =>
    clear H'
    skip
    obtain ⟨x3_1, x4_1, rfl, HA, HK1, HO_3, HB⟩ := hrel
    cases gk with
    | zero => exact absurd HA.out (by simp [impl_divisors.l0])
    | succ k1 =>
      have H := HA.out
      clear HA
      simp only [impl_divisors.l0] at H
      by_cases c4 : x4_1 ≤ a0
      · rw [if_pos c4] at H
        have c4b0 := decide_eq_true c4
        clear c4
        by_cases c5 : x4_1 = 0
        · rw [if_pos c5] at H
          exact absurd H (by simp)
        · rw [if_neg c5] at H
          have c5b0 : (x4_1 == 0) = false := beq_eq_false_iff_ne.mpr c5
          have c5b1 : (x4_1 != 0) = true := bne_iff_ne.mpr c5
          by_cases c6 : (Int.tmod a0 x4_1) = 0
          · rw [if_pos c6] at H
            have c6b0 : ((Int.tmod a0 x4_1) == 0) = true := beq_iff_eq.mpr c6
            have c6b1 : ((Int.tmod a0 x4_1) != 0) = false := bne_eq_false_iff_eq.mpr c6
            clear c6
            by_cases c7 : x3_1.length < 17592186044416
            · rw [if_pos c7] at H
              have LMc7 := Aside0.mk c7
              clear c7
              obtain ⟨y597, hy597⟩ : ∃ y_ : List Int, y_ = (x3_1 ++ [x4_1]) := ⟨_, rfl⟩
              replace H : (impl_divisors.l0 k1 a0 y597 (wrap64 (x4_1 + 1))) = some r := by first | (rw [hy597]; with_reducible exact H) | (have H2_ := (Option.bind_some _ _).symm.trans H; rw [hy597]; with_reducible exact H2_) | (have H2_ := (Option.bind_some _ _).symm.trans H; with_reducible exact H2_) | with_reducible exact H | (rw [hy597]; exact H) | exact H
              have Ny597 := Aside0.mk hy597
              clear hy597
              have H' := Aside0.mk H
              clear H
              go_wp2_with (first | ((with_reducible refine gate_builtin (b := .append) (xs := #[.tmp 15, .tmp 17]) rfl ?_); at_builtin; refine Kd.R_append (Kd.int .i64) (w0 := w) w.heap.size rfl (.tmp 15) (.tmp 17) 24 3 (.int .i64 0) 8 rfl Tryz.underlying24 info3 rfl (by decide) (by omega) u3 x3_1 x4_1 [.int .i64 x4_1] (fun _ => True) (fun _ => False) rfl rfl ?aP (fun _ hk => hk.elim) ?aF ?aO ?aB ?aS ?aL ?_; (case aP => exact rfl); (case aB => exact (uB HB)); (case aF => exact (fun _ _ => trivial)); (case aO => exact (uR HO_3)); (case aS => exact (below_size (uB HB))); (case aL => have := LMc7.out; omega); intro v598 w8 ho hb hg hat; rw [← Ny597.out] at ho; have n0_ := Aside0.mk (hb); have n1_ := Aside0.mk (ho); clear HB; clear HO_3; have HB := n0_; have HO599 := n1_; clear n0_ n1_; clear ho hb hg hat))
              go_roundg k1
              case measure => have := HK1.out; omega
              case rel => exact ⟨(y597), (wrap64 (x4_1 + 1)), (by first | rfl | (simp; done) | (simp [*]; done)), H', ⟨by have := HK1.out; omega⟩, ⟨uR HO599⟩, ⟨uB HB⟩⟩
            · rw [if_neg c7] at H
              exact absurd H (by simp)
          · rw [if_neg c6] at H
            have c6b0 : ((Int.tmod a0 x4_1) == 0) = false := beq_eq_false_iff_ne.mpr c6
            have c6b1 : ((Int.tmod a0 x4_1) != 0) = true := bne_iff_ne.mpr c6
            have H' := Aside0.mk H
            clear H
            go_wp2
            go_roundg k1
            case measure => have := HK1.out; omega
            case rel => exact ⟨(x3_1), (wrap64 (x4_1 + 1)), (by first | rfl | (simp; done) | (simp [*]; done)), H', ⟨by have := HK1.out; omega⟩, ⟨uR HO_3⟩, ⟨uB HB⟩⟩
      · rw [if_neg c4] at H
        have c4b0 := decide_eq_false c4
        clear c4
        obtain rfl := Option.some.inj H
        go_wp2
        go_ret
        exact ⟨_, by first | rfl | (simp [errW_none, errW_some] <;> rfl) | (simp [*, errW_none, errW_some] <;> rfl), uR HO_3, uB HB⟩
end Go.Proofs.YtkgngggppcmpfaaGreat.L
end
section
namespace Go.Proofs.YtkgngggppcmpfaaGreat.L
open Go.RowKit Go.Proofs.YtkgngggppcmpfaaGreatW.PrintWords Go.Proofs.YtkgngggppcmpfaaGreatW.PrintLast Go.Proofs.YtkgngggppcmpfaaGreatW.PrintMore
attribute [local go_sem] max2_int min2_int max_two min_two max_three min_three max_four min_four
set_option linter.unusedVariables false
set_option linter.unusedSimpArgs false
def impl_moebius.l0 : Nat → Int → Int → Int → Option (Int)
  | 0, _, _, _ => none
  | k + 1, x0, x3, x4 => if x4 ≤ x0 then (if x4 = 0 then (none) else (if (Int.tmod x0 x4) = 0 then (if (Int.tmod (wrap64 (Int.tdiv x0 x4)) x4) = 0 then (some 0) else (impl_moebius.l0 k (wrap64 (Int.tdiv x0 x4)) (wrap64 (-x3)) (wrap64 (x4 + 1)))) else (impl_moebius.l0 k x0 x3 (wrap64 (x4 + 1))))) else (some x3)
def impl_moebius.f (k : Nat) (a0 : Int) : Option (Int) := impl_moebius.l0 k a0 1 2
theorem impl_moebius.mono_l : ∀ k, (∀ y0 y1 y2, LeO (impl_moebius.l0 k y0 y1 y2) (impl_moebius.l0 (k + 1) y0 y1 y2))
  | 0 => fun _ _ _ r h => by simp [impl_moebius.l0] at h
  | k + 1 => by
    have ih0 := impl_moebius.mono_l k
    · intro y0 y1 y2
      unfold impl_moebius.l0
      repeat' first
      | (with_reducible exact ih0 _ _ _)
      | (with_reducible exact LeO.refl _)
      | (with_reducible exact LeO.none _)
      | (with_reducible refine LeO.ite ?_ ?_)
      | (with_reducible refine LeO.bind ?_ (fun _ => ?_))
      | exact ih0 _ _ _
      | exact LeO.none _
      | refine LeO.ite ?_ ?_
      | refine LeO.bind ?_ (fun _ => ?_)
theorem impl_moebius.mono : ∀ a0 k, LeO (impl_moebius.f k a0) (impl_moebius.f (k + 1) a0) := by
  intro a0 k
  have ih0 := impl_moebius.mono_l k
  unfold impl_moebius.f
  repeat' (with_reducible first | apply ih0 | exact LeO.refl _ | exact LeO.none _ | refine LeO.ite ?_ ?_ | refine LeO.bind ?_ (fun _ => ?_))
set_option maxHeartbeats 8000000 in
set_option maxRecDepth 100000 in
theorem impl_moebius.calls (k : Nat) (a0 : Int) (r : Int) (w : World) (h : impl_moebius.f k a0 = some r) :
    Calls Tryz.prog 304 #[.int .i64 a0] w fun e w' => e = .returned (.int .i64 r) ∧ Drawn0 w w' := by
  have H : (impl_moebius.l0 k a0 1 2) = some r := h
  clear h
  have H' := Aside0.mk H
  clear H
  go_enter Tryz.func304, Tryz.ntmps304
  go_wp2
  go_loopg [0, 3, 4] k (fun kq v0 v3 v4 w' => ∃ (x0_1 : Int) (x3_1 : Int) (x4_1 : Int), v0 = .int .i64 x0_1 ∧ v3 = .int .i64 x3_1 ∧ v4 = .int .i64 x4_1 ∧ Aside0 (impl_moebius.l0 kq x0_1 x3_1 x4_1 = some r) ∧ Aside0 (kq ≤ k) ∧ Drawn0 w w')
  case atStart => exact ⟨(a0), (1), (2), (by first | rfl | (simp; done) | (simp [*]; done)), (by first | rfl | (simp; done) | (simp [*]; done)), (by first | rfl | (simp; done) | (simp [*]; done)), H', ⟨Nat.le_refl _⟩, by repeat (first | exact Drawn0.refl _ | apply Drawn0.step)⟩
  case round =>
    clear H'
    obtain ⟨x0_1, x3_1, x4_1, rfl, rfl, rfl, HA, HK1, ⟨m1, rfl⟩⟩ := hrel
    cases gk with
    | zero => exact absurd HA.out (by simp [impl_moebius.l0])
    | succ k1 =>
      have H := HA.out
      clear HA
      simp only [impl_moebius.l0] at H
      by_cases c2 : x4_1 ≤ x0_1
      · rw [if_pos c2] at H
        have c2b0 := decide_eq_true c2
        clear c2
        by_cases c3 : x4_1 = 0
        · rw [if_pos c3] at H
          exact absurd H (by simp)
        · rw [if_neg c3] at H
          have c3b0 : (x4_1 == 0) = false := beq_eq_false_iff_ne.mpr c3
          have c3b1 : (x4_1 != 0) = true := bne_iff_ne.mpr c3
          by_cases c4 : (Int.tmod x0_1 x4_1) = 0
          · rw [if_pos c4] at H
            have c4b0 : ((Int.tmod x0_1 x4_1) == 0) = true := beq_iff_eq.mpr c4
            have c4b1 : ((Int.tmod x0_1 x4_1) != 0) = false := bne_eq_false_iff_eq.mpr c4
            clear c4
            by_cases c5 : (Int.tmod (wrap64 (Int.tdiv x0_1 x4_1)) x4_1) = 0
            · rw [if_pos c5] at H
              have c5b0 : ((Int.tmod (wrap64 (Int.tdiv x0_1 x4_1)) x4_1) == 0) = true := beq_iff_eq.mpr c5
              have c5b1 : ((Int.tmod (wrap64 (Int.tdiv x0_1 x4_1)) x4_1) != 0) = false := bne_eq_false_iff_eq.mpr c5
              clear c5
              obtain rfl := Option.some.inj H
              go_wp2
              go_ret
              exact ⟨by first | rfl | (simp; done) | (simp [*]; done), by repeat (first | exact Drawn0.refl _ | apply Drawn0.step)⟩
            · rw [if_neg c5] at H
              have c5b0 : ((Int.tmod (wrap64 (Int.tdiv x0_1 x4_1)) x4_1) == 0) = false := beq_eq_false_iff_ne.mpr c5
              have c5b1 : ((Int.tmod (wrap64 (Int.tdiv x0_1 x4_1)) x4_1) != 0) = true := bne_iff_ne.mpr c5
              have H' := Aside0.mk H
              clear H
              go_wp2
              go_roundg k1
              case measure => have := HK1.out; omega
              case rel => exact ⟨(wrap64 (Int.tdiv x0_1 x4_1)), (wrap64 (-x3_1)), (wrap64 (x4_1 + 1)), (by first | rfl | (simp; done) | (simp [*]; done)), (by first | rfl | (simp; done) | (simp [*]; done)), (by first | rfl | (simp; done) | (simp [*]; done)), H', ⟨by have := HK1.out; omega⟩, by repeat (first | exact Drawn0.refl _ | apply Drawn0.step)⟩
          · rw [if_neg c4] at H
            have c4b0 : ((Int.tmod x0_1 x4_1) == 0) = false := beq_eq_false_iff_ne.mpr c4
            have c4b1 : ((Int.tmod x0_1 x4_1) != 0) = true := bne_iff_ne.mpr c4
            have H' := Aside0.mk H
            clear H
            go_wp2
            go_roundg k1
            case measure => have := HK1.out; omega
            case rel => exact ⟨(x0_1), (x3_1), (wrap64 (x4_1 + 1)), (by first | rfl | (simp; done) | (simp [*]; done)), (by first | rfl | (simp; done) | (simp [*]; done)), (by first | rfl | (simp; done) | (simp [*]; done)), H', ⟨by have := HK1.out; omega⟩, by repeat (first | exact Drawn0.refl _ | apply Drawn0.step)⟩
      · rw [if_neg c2] at H
        have c2b0 := decide_eq_false c2
        clear c2
        obtain rfl := Option.some.inj H
        go_wp2
        go_ret
        exact ⟨by first | rfl | (simp; done) | (simp [*]; done), by repeat (first | exact Drawn0.refl _ | apply Drawn0.step)⟩
def impl_rootSum.g (k : Nat) (m d n : Int) : Int := if Int.tmod d n = 0 then wrap64 (n * ((impl_moebius.f k (wrap64 (Int.tdiv m n))).getD 0)) else 0
def impl_rootSum.ok (k : Nat) (m d : Int) (l : List Int) : Bool := l.all fun n => n != 0 && (Int.tmod d n != 0 || (impl_moebius.f k (wrap64 (Int.tdiv m n))).isSome)
def impl_rootSum.f (k : Nat) (m : Int) (d : Int) : Option Int := (impl_divisors.f k m).bind fun l => if l.length ≤ 9223372036854775806 ∧ impl_rootSum.ok k m d l = true then some (Go.Proofs.YtkgngggppcmpfaaGreat.X.sumF (impl_rootSum.g k m d) l) else none
theorem impl_rootSum.sumFrom_congr {f g : Int → Int} : ∀ (l : List Int) (n : Int), (∀ x ∈ l, f x = g x) → Go.Proofs.YtkgngggppcmpfaaGreat.X.sumFrom f l n = Go.Proofs.YtkgngggppcmpfaaGreat.X.sumFrom g l n
  | [], _, _ => rfl
  | x :: l, n, h => by
    unfold Go.Proofs.YtkgngggppcmpfaaGreat.X.sumFrom
    rw [List.foldl_cons, List.foldl_cons, h x List.mem_cons_self]
    exact impl_rootSum.sumFrom_congr l _ fun y hy => h y (List.mem_cons_of_mem _ hy)
theorem impl_rootSum.mono : ∀ a0 a1 k, LeO (impl_rootSum.f k a0 a1) (impl_rootSum.f (k + 1) a0 a1) := by
  intro m d k
  unfold impl_rootSum.f
  refine LeO.bind (impl_divisors.mono _ _) fun l => ?_
  intro r h
  split at h
  · rename_i hc
    obtain rfl := Option.some.inj h
    have hok := hc.2
    unfold impl_rootSum.ok at hok
    rw [List.all_eq_true] at hok
    have hm : ∀ n, ∀ v, impl_moebius.f k n = some v → impl_moebius.f (k + 1) n = some v := fun n v hv => impl_moebius.mono n k v hv
    rw [if_pos]
    · refine congrArg some ?_
      unfold Go.Proofs.YtkgngggppcmpfaaGreat.X.sumF
      refine (impl_rootSum.sumFrom_congr l 0 fun n hn => ?_).symm
      have hz := hok n hn
      unfold impl_rootSum.g
      by_cases ht : Int.tmod d n = 0
      · rw [if_pos ht, if_pos ht]
        rw [ht] at hz
        cases hv : impl_moebius.f k (wrap64 (Int.tdiv m n)) with
        | none => rw [hv] at hz; simp at hz
        | some v => rw [hm _ v hv]
      · rw [if_neg ht, if_neg ht]
    · refine ⟨hc.1, ?_⟩
      unfold impl_rootSum.ok
      rw [List.all_eq_true]
      intro n hn
      have hz := hok n hn
      rw [Bool.and_eq_true, Bool.or_eq_true] at hz ⊢
      refine ⟨hz.1, ?_⟩
      rcases hz.2 with h1 | h1
      · exact .inl h1
      · obtain ⟨v, hv⟩ := Option.isSome_iff_exists.mp h1
        exact .inr (by rw [hm _ v hv]; rfl)
  · cases h
open Go.Proofs.YtkgngggppcmpfaaGreat.X in
set_option maxHeartbeats 800000 in
set_option maxRecDepth 100000 in
theorem impl_rootSum.lit (k : Nat) (m d n : Int) (B1 B2 : Nat) (w : World) (hB1 : B1 < w.heap.size) (hc1 : w.cell? ⟨B1, 0, none⟩ = some (.int .i64 d)) (hB2 : B2 < w.heap.size) (hc2 : w.cell? ⟨B2, 0, none⟩ = some (.int .i64 m)) (hn : n ≠ 0)
    (hk : Int.tmod d n = 0 → ∃ v, impl_moebius.f k (wrap64 (Int.tdiv m n)) = some v) :
    Fv Tryz.prog 303 #[.pointer (some ⟨B1, 0, none⟩), .pointer (some ⟨B2, 0, none⟩)] #[.int .i64 n] (.int .i64 (impl_rootSum.g k m d n)) w := by
  intro W hb
  have q1 : W.cell? ⟨B1, 0, none⟩ = some (.int .i64 d) := (hb.cell (p := ⟨B1, 0, none⟩) hB1).trans hc1
  have q2 : W.cell? ⟨B2, 0, none⟩ = some (.int .i64 m) := (hb.cell (p := ⟨B2, 0, none⟩) hB2).trans hc2
  unfold impl_rootSum.g
  clear hc1 hc2 hB1 hB2 hb
  by_cases hz : Int.tmod d n = 0
  · obtain ⟨v, hv⟩ := hk hz
    rw [if_pos hz, hv]
    have HV := Aside0.mk hv
    clear hv hk
    show Calls _ _ _ _ fun e w' => e = .returned (.int .i64 (wrap64 (n * v))) ∧ _
    go_enter Tryz.func303, Tryz.ntmps303
    go_wp2_with (go_at_call 304; (with_reducible refine (impl_moebius.calls k (wrap64 (Int.tdiv m n)) v _ HV.out).mono ?_); rintro e w1 ⟨rfl, ⟨nd, rfl⟩⟩)
    go_ret
    exact ⟨rfl, pw_below_drewN (Below.refl _ _) _⟩
  · rw [if_neg hz]
    clear hk
    have hz1 : (Int.tmod d n != 0) = true := bne_iff_ne.mpr hz
    have hz2 : decide (Int.tmod d n = 0) = false := decide_eq_false hz
    go_enter Tryz.func303, Tryz.ntmps303
    go_wp2
    go_ret
    exact ⟨rfl, by first | exact Below.refl _ _ | exact pw_below_drewN (Below.refl _ _) _⟩
open Go.Proofs.YtkgngggppcmpfaaGreat.X in
set_option maxHeartbeats 800000 in
set_option maxRecDepth 100000 in
theorem impl_rootSum.calls (k : Nat) (a0 : Int) (a1 : Int) (r : Int) (w : World) (h : impl_rootSum.f k a0 a1 = some r) :
    Calls Tryz.prog 223 #[.int .i64 a0, .int .i64 a1] w fun e w' => e = .returned (.int .i64 r) ∧ Below w.heap.size w w' := by
  unfold impl_rootSum.f at h
  obtain ⟨l, hl, h⟩ := Option.bind_eq_some_iff.mp h
  split at h
  · rename_i hc
    obtain rfl := Option.some.inj h
    have HD := Aside0.mk hl
    have HC := Aside0.mk hc
    clear h hl hc
    go_enter Tryz.func223, Tryz.ntmps223
    go_wp2_with fail
    refine (impl_divisors.calls k a0 l _ HD.out).mono ?_
    rintro e w1 ⟨v0, rfl, hR, hb⟩
    obtain ⟨Ao, co, rfl, hl, hC⟩ := Kd.R_reads hR
    have z1 := Aside0.mk (show w.heap.size < w1.heap.size by have := hb.size; simp at this; omega)
    have z2 := Aside0.mk (show w.heap.size + 1 < w1.heap.size by have := hb.size; simp at this; omega)
    have c1 := Aside0.mk (show w1.cell? ⟨w.heap.size, 0, none⟩ = some (.int .i64 a0) from (hb.cell (p := ⟨w.heap.size, 0, none⟩) (by simp; omega)).trans (by simp))
    have c2 := Aside0.mk (show w1.cell? ⟨w.heap.size + 1, 0, none⟩ = some (.int .i64 a1) from (hb.cell (p := ⟨w.heap.size + 1, 0, none⟩) (by simp)).trans (by simp))
    have B1 := Aside0.mk (below_to (below_alloc (below_alloc (Below.refl w.heap.size w) _) _) hb)
    have HL := Aside0.mk hC
    clear hb hR hC hl
    go_wp2_with fail
    refine (impl_sum.calls Ao co l 303 #[.pointer (some ⟨w.heap.size + 1, 0, none⟩), .pointer (some ⟨w.heap.size, 0, none⟩)] (impl_rootSum.g k a0 a1) _ (enters_ Tryz.func303 (by kernel_rfl) rfl) HL.out HC.out.1 (fun x hx => ?_)).mono ?_
    · have hok := HC.out.2
      unfold impl_rootSum.ok at hok
      rw [List.all_eq_true] at hok
      have hz := hok x hx
      rw [Bool.and_eq_true, Bool.or_eq_true] at hz
      refine impl_rootSum.lit k a0 a1 x _ _ _ z2.out c2.out z1.out c1.out (by simpa using hz.1) fun ht => ?_
      rcases hz.2 with h1 | h1
      · rw [ht] at h1; simp at h1
      · exact Option.isSome_iff_exists.mp h1
    rintro e w2 ⟨rfl, hb⟩
    have B2 := Aside0.mk (below_to B1.out hb)
    clear hb
    go_wp2
    go_ret
    exact ⟨rfl, B2.out⟩
  · cases h
def impl_ValueByRemainders.g (k : Nat) (l0 : List Int) (d x : Int) : Int := wrap64 (rd l0 (Int.tmod x (l0.length : Int)) * ((impl_rootSum.f k (wrap64 (Int.tdiv (l0.length : Int) x)) d).getD 0))
def impl_ValueByRemainders.ok (k : Nat) (l0 : List Int) : Bool := (List.range l0.length).all fun r => (impl_gcd.f k (l0.length : Int) (r : Int)).any fun g => decide (0 ≤ Int.tmod g (l0.length : Int)) && decide (Int.tmod g (l0.length : Int) < (l0.length : Int))
def impl_ValueByRemainders.same (k : Nat) (l0 : List Int) : Bool := (List.range l0.length).all fun r => rd l0 (r : Int) == rd l0 (Int.tmod ((impl_gcd.f k (l0.length : Int) (r : Int)).getD 0) (l0.length : Int))
def impl_ValueByRemainders.ok2 (k : Nat) (l0 : List Int) (d : Int) (l : List Int) : Bool := l.all fun x => x != 0 && decide (0 ≤ Int.tmod x (l0.length : Int)) && decide (Int.tmod x (l0.length : Int) < (l0.length : Int)) && (impl_rootSum.f k (wrap64 (Int.tdiv (l0.length : Int) x)) d).isSome
def impl_ValueByRemainders.last (k : Nat) (l0 : List Int) (a1 : Int) : Option (Int × Bool) := if impl_ValueByRemainders.same k l0 = true then (impl_divisors.f k (l0.length : Int)).bind fun l => if l.length ≤ 9223372036854775806 ∧ impl_ValueByRemainders.ok2 k l0 a1 l = true then some (Go.Proofs.YtkgngggppcmpfaaGreat.X.sumF (impl_ValueByRemainders.g k l0 a1) l, true) else none else some (0, false)
def impl_ValueByRemainders.f (k : Nat) (l0 : List Int) (a1 : Int) : Option (Int × Bool) := (impl_areRests.f l0).bind fun t => if t = true then (impl_within.f a1 0 60).bind fun b => if b = true then (if 0 < l0.length ∧ l0.length ≤ 9223372036854775806 ∧ impl_ValueByRemainders.ok k l0 = true then impl_ValueByRemainders.last k l0 a1 else none) else some (0, false) else some (0, false)
theorem impl_ValueByRemainders.all_congr {α : Type} {p q : α → Bool} : ∀ l : List α, (∀ x ∈ l, p x = q x) → l.all p = l.all q
  | [], _ => rfl
  | x :: l, h => by rw [List.all_cons, List.all_cons, h x List.mem_cons_self, impl_ValueByRemainders.all_congr l fun y hy => h y (List.mem_cons_of_mem _ hy)]
theorem impl_ValueByRemainders.ok_at {k : Nat} {l0 : List Int} (h : impl_ValueByRemainders.ok k l0 = true) (r : Nat) (hr : r < l0.length) :
    ∃ g, impl_gcd.f k (l0.length : Int) (r : Int) = some g ∧ 0 ≤ Int.tmod g (l0.length : Int) ∧ Int.tmod g (l0.length : Int) < (l0.length : Int) := by
  unfold impl_ValueByRemainders.ok at h
  rw [List.all_eq_true] at h
  have h1 := h r (List.mem_range.mpr hr)
  cases hg : impl_gcd.f k (l0.length : Int) (r : Int) with
  | none => rw [hg] at h1; cases h1
  | some g =>
    rw [hg] at h1
    have h2 : (decide (0 ≤ Int.tmod g (l0.length : Int)) && decide (Int.tmod g (l0.length : Int) < (l0.length : Int))) = true := h1
    rw [Bool.and_eq_true, decide_eq_true_eq, decide_eq_true_eq] at h2
    exact ⟨g, rfl, h2⟩
theorem impl_ValueByRemainders.ok_mono {k : Nat} {l0 : List Int} (h : impl_ValueByRemainders.ok k l0 = true) :
    impl_ValueByRemainders.ok (k + 1) l0 = true ∧ impl_ValueByRemainders.same (k + 1) l0 = impl_ValueByRemainders.same k l0 := by
  constructor
  · unfold impl_ValueByRemainders.ok
    rw [List.all_eq_true]
    intro r hr
    obtain ⟨g, hg, h1, h2⟩ := impl_ValueByRemainders.ok_at h r (List.mem_range.mp hr)
    rw [impl_gcd.mono _ _ k g hg]
    show (decide (0 ≤ Int.tmod g (l0.length : Int)) && decide (Int.tmod g (l0.length : Int) < (l0.length : Int))) = true
    rw [Bool.and_eq_true, decide_eq_true_eq, decide_eq_true_eq]
    exact ⟨h1, h2⟩
  · unfold impl_ValueByRemainders.same
    refine impl_ValueByRemainders.all_congr _ fun r hr => ?_
    obtain ⟨g, hg, h1, h2⟩ := impl_ValueByRemainders.ok_at h r (List.mem_range.mp hr)
    rw [hg, impl_gcd.mono _ _ k g hg]
theorem impl_ValueByRemainders.ok2_at {k : Nat} {l0 : List Int} {d : Int} {l : List Int} (h : impl_ValueByRemainders.ok2 k l0 d l = true) (x : Int) (hx : x ∈ l) :
    x ≠ 0 ∧ 0 ≤ Int.tmod x (l0.length : Int) ∧ Int.tmod x (l0.length : Int) < (l0.length : Int) ∧ ∃ v, impl_rootSum.f k (wrap64 (Int.tdiv (l0.length : Int) x)) d = some v := by
  unfold impl_ValueByRemainders.ok2 at h
  rw [List.all_eq_true] at h
  have h1 := h x hx
  rw [Bool.and_eq_true, Bool.and_eq_true, Bool.and_eq_true, bne_iff_ne, decide_eq_true_eq, decide_eq_true_eq, Option.isSome_iff_exists] at h1
  exact ⟨h1.1.1.1, h1.1.1.2, h1.1.2, h1.2⟩
theorem impl_ValueByRemainders.mono : ∀ a0 a1 k, LeO (impl_ValueByRemainders.f k a0 a1) (impl_ValueByRemainders.f (k + 1) a0 a1) := by
  intro l0 d k r h
  unfold impl_ValueByRemainders.f at h ⊢
  obtain ⟨t, ht, h⟩ := Option.bind_eq_some_iff.mp h
  rw [ht]
  show (if t = true then _ else _) = _
  by_cases ct : t = true
  · rw [if_pos ct] at h ⊢
    obtain ⟨b, hb, h⟩ := Option.bind_eq_some_iff.mp h
    rw [hb]
    show (if b = true then _ else _) = _
    by_cases cb : b = true
    · rw [if_pos cb] at h ⊢
      split at h
      · rename_i hc
        obtain ⟨o1, o2⟩ := impl_ValueByRemainders.ok_mono hc.2.2
        rw [if_pos ⟨hc.1, hc.2.1, o1⟩]
        unfold impl_ValueByRemainders.last at h ⊢
        rw [o2]
        split at h
        · rename_i hs
          rw [if_pos hs]
          obtain ⟨l, hl, h⟩ := Option.bind_eq_some_iff.mp h
          rw [impl_divisors.mono _ k l hl]
          show (if _ then _ else _) = _
          split at h
          · rename_i h2
            obtain rfl := Option.some.inj h
            rw [if_pos]
            · refine congrArg (fun n => some (n, true)) ?_
              unfold Go.Proofs.YtkgngggppcmpfaaGreat.X.sumF
              refine (impl_rootSum.sumFrom_congr l 0 fun n hn => ?_).symm
              obtain ⟨_, _, _, v, hv⟩ := impl_ValueByRemainders.ok2_at h2.2 n hn
              unfold impl_ValueByRemainders.g
              rw [hv, impl_rootSum.mono _ _ k v hv]
            · refine ⟨h2.1, ?_⟩
              unfold impl_ValueByRemainders.ok2
              rw [List.all_eq_true]
              intro n hn
              obtain ⟨e1, e2, e3, v, hv⟩ := impl_ValueByRemainders.ok2_at h2.2 n hn
              rw [Bool.and_eq_true, Bool.and_eq_true, Bool.and_eq_true, bne_iff_ne, decide_eq_true_eq, decide_eq_true_eq, Option.isSome_iff_exists]
              exact ⟨⟨⟨e1, e2⟩, e3⟩, v, impl_rootSum.mono _ _ k v hv⟩
          · cases h
        · rename_i hs
          rw [if_neg hs]
          exact h
      · cases h
    · rw [if_neg cb] at h ⊢
      exact h
  · rw [if_neg ct] at h ⊢
    exact h
open Go.Proofs.YtkgngggppcmpfaaGreat.X in
set_option maxHeartbeats 800000 in
set_option maxRecDepth 100000 in
theorem impl_ValueByRemainders.lit (k : Nat) (A0 : Option Addr) (c0 : Nat) (l0 : List Int) (d x : Int) (B1 B2 B3 : Nat) (w : World) (hB1 : B1 < w.heap.size) (hc1 : w.cell? ⟨B1, 0, none⟩ = some (.slice A0 l0.length c0)) (hB2 : B2 < w.heap.size) (hc2 : w.cell? ⟨B2, 0, none⟩ = some (.int .i64 (l0.length : Int))) (hB3 : B3 < w.heap.size) (hc3 : w.cell? ⟨B3, 0, none⟩ = some (.int .i64 d))
    (hC : Kd.C (Kd.int .i64) w A0 l0.length l0) (hn : x ≠ 0) (p1 : 0 ≤ Int.tmod x (l0.length : Int)) (p2 : Int.tmod x (l0.length : Int) < (l0.length : Int)) (v : Int) (hv : impl_rootSum.f k (wrap64 (Int.tdiv (l0.length : Int) x)) d = some v) :
    Fv Tryz.prog 222 #[.pointer (some ⟨B1, 0, none⟩), .pointer (some ⟨B2, 0, none⟩), .pointer (some ⟨B3, 0, none⟩)] #[.int .i64 x] (.int .i64 (impl_ValueByRemainders.g k l0 d x)) w := by
  intro W hb
  have q1 : W.cell? ⟨B1, 0, none⟩ = some (.slice A0 l0.length c0) := (hb.cell (p := ⟨B1, 0, none⟩) hB1).trans hc1
  have q2 : W.cell? ⟨B2, 0, none⟩ = some (.int .i64 (l0.length : Int)) := (hb.cell (p := ⟨B2, 0, none⟩) hB2).trans hc2
  have q3 : W.cell? ⟨B3, 0, none⟩ = some (.int .i64 d) := (hb.cell (p := ⟨B3, 0, none⟩) hB3).trans hc3
  obtain ⟨ad, e1, hx⟩ := Kd.at_int (Kd.C_below hC hb) (Int.tmod x (l0.length : Int)) p1 p2
  cases e1
  unfold impl_ValueByRemainders.g
  rw [hv]
  obtain ⟨m, hm⟩ : ∃ m : Int, m = (l0.length : Int) := ⟨_, rfl⟩
  have p3 : Int.tmod x m < (l0.length : Int) := by rw [hm]; exact p2
  have hm0 : m ≠ 0 := by intro e; rw [← hm, e] at p2; rw [← hm, e] at p1; simp at p1 p2; omega
  rw [← hm] at q2 hx hv p1 ⊢
  have HV := Aside0.mk (show impl_rootSum.f k (IntKind.i64.wrap (Int.tdiv m x)) d = some v by rw [i64_w]; exact hv)
  clear hv hC hc1 hc2 hc3 hB1 hB2 hB3 hb p2 hm
  obtain ⟨u, hu⟩ : ∃ u, u = rd l0 (Int.tmod x m) := ⟨_, rfl⟩
  rw [← hu] at hx ⊢
  clear hu
  show Calls _ _ _ _ fun e w' => e = .returned (.int .i64 (wrap64 (u * v))) ∧ _
  go_enter Tryz.func222, Tryz.ntmps222
  go_wp2
  go_region_held3 (fun w' => w'.cell? ⟨B1, 0, none⟩ = some (.slice (some ad) l0.length c0) ∧ w'.cell? ⟨B2, 0, none⟩ = some (.int .i64 m) ∧ w'.cell? ⟨B3, 0, none⟩ = some (.int .i64 d) ∧ w'.cell? (ad.add (Int.tmod x m).toNat) = some (.int .i64 u) ∧ Below W.heap.size W w')
    (first | exact ⟨q1, q2, q3, hx, below_drew (Below.refl _ _)⟩ | exact ⟨pw_cell_below hb (by assumption), pw_cell_below hb (by assumption), pw_cell_below hb (by assumption), pw_cell_below hb (by assumption), (by first | exact below_to (by assumption) hb | exact below_to (below_drew (Below.refl _ _)) hb)⟩)
    (first | (go_at_call 223; (with_reducible refine (impl_rootSum.calls k (IntKind.i64.wrap (Int.tdiv m x)) d v _ HV.out).mono ?_); rintro e w1 ⟨rfl, hb⟩))
  go_wp2
  go_ret
  exact ⟨by rw [← i64_w (u * v)]; rfl, below_to (below_drew (Below.refl _ _)) hb⟩
open Go.Proofs.YtkgngggppcmpfaaGreat.X in
set_option maxHeartbeats 1600000 in
set_option maxRecDepth 100000 in
theorem impl_ValueByRemainders.main (k : Nat) (A0 : Option Addr) (c0 : Nat) (l0 : List Int) (a1 : Int) (r1 : Int) (r2 : Bool) (w : World) (HR : Aside0 (Kd.C (Kd.int .i64) w A0 l0.length l0)) (HC : Aside0 (l0.length ≤ c0))
    (HT : Aside0 (impl_areRests.f l0 = some true)) (HW : Aside0 (impl_within.f a1 0 60 = some true)) (hl1 : 0 < l0.length) (L0 : Aside0 (l0.length ≤ 9223372036854775806)) (OK : Aside0 (impl_ValueByRemainders.ok k l0 = true)) (HF : Aside0 (impl_ValueByRemainders.last k l0 a1 = some (r1, r2))) :
    Calls Tryz.prog 69 #[.slice A0 l0.length c0, .int .i64 a1] w fun e w' => e = .returned (.tuple #[.int .i64 r1, .bool r2]) ∧ Below w.heap.size w w' := by
  go_enter Tryz.func69, Tryz.ntmps69
  go_wp2_with fail
  refine (impl_areRests.calls A0 c0 l0 true _ (Kd.C_alloc (Kd.C_alloc HR.out _) _) HC.out HT.out).mono ?_
  rintro e w1 ⟨rfl, hb⟩
  have z1 := Aside0.mk (show w.heap.size < w1.heap.size by have := hb.size; simp at this; omega)
  have z2 := Aside0.mk (show w.heap.size + 1 < w1.heap.size by have := hb.size; simp at this; omega)
  have c1 := Aside0.mk (show w1.cell? ⟨w.heap.size, 0, none⟩ = some (.slice A0 l0.length c0) from (hb.cell (p := ⟨w.heap.size, 0, none⟩) (by simp; omega)).trans (by simp))
  have c2 := Aside0.mk (show w1.cell? ⟨w.heap.size + 1, 0, none⟩ = some (.int .i64 a1) from (hb.cell (p := ⟨w.heap.size + 1, 0, none⟩) (by simp)).trans (by simp))
  have B1 := Aside0.mk (below_to (below_alloc (below_alloc (Below.refl w.heap.size w) _) _) hb)
  clear hb
  have s2 := c2.out
  go_wp2_with (go_at_call 159; (with_reducible refine (impl_within.calls a1 0 60 true _ HW.out).mono ?_); rintro e w2 ⟨rfl, ⟨nd, hnd⟩⟩; have B2 := Aside0.mk (show Below w.heap.size w w2 by rw [hnd]; exact pw_below_drewN B1.out nd); have z3 := Aside0.mk (show w.heap.size < w2.heap.size by rw [hnd]; exact z1.out); have z4 := Aside0.mk (show w.heap.size + 1 < w2.heap.size by rw [hnd]; exact z2.out); have c3 := Aside0.mk (show w2.cell? ⟨w.heap.size, 0, none⟩ = some (.slice A0 l0.length c0) by rw [hnd]; exact c1.out); have c4 := Aside0.mk (show w2.cell? ⟨w.heap.size + 1, 0, none⟩ = some (.int .i64 a1) by rw [hnd]; exact c2.out); clear s2; clear hnd z1 z2 c1 c2 B1; have t1 := c3.out; have t2 : ∀ o, (World.alloc w2 o).cell? ⟨w.heap.size, 0, none⟩ = some (.slice A0 l0.length c0) := fun o => ((below_alloc (Below.refl w2.heap.size w2) o).cell (p := ⟨w.heap.size, 0, none⟩) z3.out).trans c3.out)
  obtain ⟨W0, hW0⟩ : ∃ W0, W0 = w2.alloc (.cells #[.int .i64 (l0.length : Int)] 3) := ⟨_, rfl⟩
  rw [← hW0]
  clear t1 t2
  have s1 := Aside0.mk (show W0.cell? ⟨w.heap.size, 0, none⟩ = some (.slice A0 l0.length c0) by rw [hW0]; exact ((below_alloc (Below.refl w2.heap.size w2) _).cell (p := ⟨w.heap.size, 0, none⟩) z3.out).trans c3.out)
  have s2 := Aside0.mk (show W0.cell? ⟨w.heap.size + 1, 0, none⟩ = some (.int .i64 a1) by rw [hW0]; exact ((below_alloc (Below.refl w2.heap.size w2) _).cell (p := ⟨w.heap.size + 1, 0, none⟩) z4.out).trans c4.out)
  have s3 := Aside0.mk (show W0.cell? ⟨w2.heap.size, 0, none⟩ = some (.int .i64 (l0.length : Int)) by rw [hW0]; simp)
  have B3 := Aside0.mk (show Below w.heap.size w W0 by rw [hW0]; exact below_alloc B2.out _)
  generalize w2.heap.size = nb at s3
  clear hW0 z3 z4 c3 c4 B2
  go_loopw [21] (fun v21 wr => ∃ k1 : Nat, k1 ≤ l0.length ∧ v21 = .int .i64 k1 ∧ Aside0 (∀ i : Nat, i < k1 → rd l0 (i : Int) = rd l0 (Int.tmod ((impl_gcd.f k (l0.length : Int) (i : Int)).getD 0) (l0.length : Int))) ∧ Aside0 (Below W0.heap.size W0 wr)) (fun v21 _ => l0.length - (intOf v21).toNat)
  case atStart => exact ⟨0, Nat.zero_le _, rfl, ⟨fun i hi => absurd hi (Nat.not_lt_zero _)⟩, ⟨Below.refl _ _⟩⟩
  case round =>
    obtain ⟨k1, hk, rfl, HI, HB⟩ := hrel
    have HCw := Aside0.mk (Kd.C_below HR.out (below_to B3.out HB.out))
    have r1 := pw_cell_below HB.out s1.out
    have r3 := pw_cell_below HB.out s3.out
    by_cases hlt : k1 < l0.length
    · obtain ⟨g, hg, g1, g2⟩ := impl_ValueByRemainders.ok_at OK.out k1 hlt
      have p1 : 0 ≤ ((k1 : Nat) : Int) := by omega
      have q1 : ((k1 : Nat) : Int) < (l0.length : Int) := by omega
      obtain ⟨ad, e1, hx⟩ := Kd.at_int HCw.out k1 p1 q1
      rw [Int.toNat_natCast] at hx
      cases e1
      obtain ⟨ad2, e2, hy⟩ := Kd.at_int HCw.out (Int.tmod g (l0.length : Int)) g1 g2
      cases e2
      obtain ⟨m, hm⟩ : ∃ m : Int, m = (l0.length : Int) := ⟨_, rfl⟩
      have p3 : Int.tmod g m < (l0.length : Int) := by rw [hm]; exact g2
      have hm0 : m ≠ 0 := by rw [hm]; omega
      rw [← hm] at hg g1 hy r3
      have HM := Aside0.mk hm
      have HG := Aside0.mk hg
      clear hg hm g2
      obtain ⟨u, hu⟩ : ∃ u, u = rd l0 (k1 : Int) := ⟨_, rfl⟩
      rw [← hu] at hx
      obtain ⟨v, hv⟩ : ∃ v, v = rd l0 (Int.tmod g m) := ⟨_, rfl⟩
      rw [← hv] at hy
      have HU := Aside0.mk hu
      have HV := Aside0.mk hv
      clear hu hv
      by_cases hq : u = v
      · subst hq
        go_wp2_with fail
        go_region_held3 (fun w' => w'.cell? ⟨w.heap.size, 0, none⟩ = some (.slice (some ad) l0.length c0) ∧ w'.cell? ⟨nb, 0, none⟩ = some (.int .i64 m) ∧ w'.cell? (ad.add (Int.tmod g m).toNat) = some (.int .i64 u) ∧ Below wr.heap.size wr w')
          (first | exact ⟨r1, r3, hy, below_drew (Below.refl _ _)⟩ | exact ⟨pw_cell_below hb (by assumption), pw_cell_below hb (by assumption), pw_cell_below hb (by assumption), (by first | exact below_to (by assumption) hb | exact below_to (below_drew (Below.refl _ _)) hb)⟩)
          (first | (go_at_call 219; refine (impl_gcd.calls k m (k1 : Int) g _ HG.out).mono ?_; rintro e w5 ⟨rfl, hd⟩; have hb := hd.below))
        have B5 := Aside0.mk (below_to (below_drew (Below.refl _ wr)) hb)
        clear hb
        have e2 : wrap64 ((k1 : Int) + 1) = ((k1 + 1 : Nat) : Int) := by have hl0 := L0.out; unfold wrap64; omega
        go_wp2
        (try simp only [e2, i64_w])
        clear e2
        go_roundw
        case rel => exact ⟨k1 + 1, by omega, by first | rfl | go_num, ⟨fun i hi => by
          by_cases c : i = k1
          · subst c; rw [← HM.out, HG.out]; show rd l0 (i : Int) = rd l0 (Int.tmod g m); rw [← HU.out, HV.out]
          · exact HI.out i (by omega)⟩, ⟨below_to HB.out B5.out⟩⟩
        case measure => exact (Nat.sub_lt_sub_left (by omega) (Nat.lt_succ_self k1) : l0.length - (k1 + 1) < l0.length - k1)
      · have hq1 : decide (u = v) = false := decide_eq_false hq
        have hq2 : (u == v) = false := beq_eq_false_iff_ne.mpr hq
        have hq3 : (u != v) = true := by rw [bne, hq2]; rfl
        have HQ := Aside0.mk hq
        clear hq
        go_wp2_with fail
        go_region_held3 (fun w' => w'.cell? ⟨w.heap.size, 0, none⟩ = some (.slice (some ad) l0.length c0) ∧ w'.cell? ⟨nb, 0, none⟩ = some (.int .i64 m) ∧ w'.cell? (ad.add (Int.tmod g m).toNat) = some (.int .i64 v) ∧ Below wr.heap.size wr w')
          (first | exact ⟨r1, r3, hy, below_drew (Below.refl _ _)⟩ | exact ⟨pw_cell_below hb (by assumption), pw_cell_below hb (by assumption), pw_cell_below hb (by assumption), (by first | exact below_to (by assumption) hb | exact below_to (below_drew (Below.refl _ _)) hb)⟩)
          (first | (go_at_call 219; refine (impl_gcd.calls k m (k1 : Int) g _ HG.out).mono ?_; rintro e w5 ⟨rfl, hd⟩; have hb := hd.below))
        have B5 := Aside0.mk (below_to (below_drew (Below.refl _ wr)) hb)
        clear hb
        go_wp2
        go_ret2
        have e1 : impl_ValueByRemainders.same k l0 = false := by
          unfold impl_ValueByRemainders.same
          rw [List.all_eq_false]
          refine ⟨k1, List.mem_range.mpr hlt, ?_⟩
          rw [← HM.out, HG.out]
          show ¬ ((rd l0 (k1 : Int) == rd l0 (Int.tmod g m)) = true)
          rw [← HU.out, ← HV.out, hq2]
          simp
        have e2 := HF.out
        unfold impl_ValueByRemainders.last at e2
        rw [e1, if_neg (by simp)] at e2
        injection e2 with e2
        injection e2 with e3 e4
        subst e3 e4
        exact ⟨rfl, below_to B3.out (below_to HB.out B5.out)⟩
    · have e1 : impl_ValueByRemainders.same k l0 = true := by
        unfold impl_ValueByRemainders.same
        rw [List.all_eq_true]
        intro i hi
        rw [beq_iff_eq]
        exact HI.out i (by have := List.mem_range.mp hi; omega)
      have e2 := HF.out
      unfold impl_ValueByRemainders.last at e2
      rw [if_pos e1] at e2
      obtain ⟨l, hl, e2⟩ := Option.bind_eq_some_iff.mp e2
      split at e2
      · rename_i hc
        injection e2 with e2
        injection e2 with e3 e4
        subst e3 e4
        obtain ⟨m, hm⟩ : ∃ m : Int, m = (l0.length : Int) := ⟨_, rfl⟩
        rw [← hm] at hl r3
        have HM := Aside0.mk hm
        have HD := Aside0.mk hl
        have HL := Aside0.mk hc
        have r2 := Aside0.mk (pw_cell_below HB.out s2.out)
        clear hl hc hm e1
        go_wp2_with fail
        refine (impl_divisors.calls k m l _ HD.out).mono ?_
        rintro e w3 ⟨v0, rfl, hR, hb⟩
        obtain ⟨Ao, co, rfl, hl, hC⟩ := Kd.R_reads hR
        have x1 := Aside0.mk (pw_cell_below hb r1)
        have x2 := Aside0.mk (pw_cell_below hb r2.out)
        have x3 := Aside0.mk (pw_cell_below hb r3)
        have B5 := Aside0.mk (below_to HB.out hb)
        have HX := Aside0.mk hC
        clear hb hR hC hl r1 r3 r2
        go_wp2_with fail
        refine (impl_sum.calls Ao co l 222 #[.pointer (some ⟨w.heap.size, 0, none⟩), .pointer (some ⟨nb, 0, none⟩), .pointer (some ⟨w.heap.size + 1, 0, none⟩)] (impl_ValueByRemainders.g k l0 a1) _ (enters_ Tryz.func222 (by kernel_rfl) rfl) HX.out HL.out.1 (fun x hx => ?_)).mono ?_
        · obtain ⟨n1, n2, n3, v, hv⟩ := impl_ValueByRemainders.ok2_at HL.out.2 x hx
          exact impl_ValueByRemainders.lit k A0 c0 l0 a1 x _ _ _ _ (World.block_lt_of_cell? _ _ x1.out) x1.out (World.block_lt_of_cell? _ _ x3.out) (by rw [← HM.out]; exact x3.out) (World.block_lt_of_cell? _ _ x2.out) x2.out (Kd.C_below HR.out (below_to B3.out B5.out)) n1 n2 n3 v hv
        rintro e w4 ⟨rfl, hb⟩
        have B6 := Aside0.mk (below_to B5.out hb)
        clear hb
        go_wp2
        go_ret2
        exact ⟨rfl, below_to B3.out B6.out⟩
      · cases e2
open Go.Proofs.YtkgngggppcmpfaaGreat.X in
set_option maxHeartbeats 1600000 in
set_option maxRecDepth 100000 in
theorem impl_ValueByRemainders.calls (k : Nat) (A0 : Option Addr) (c0 : Nat) (l0 : List Int) (a1 : Int) (r1 : Int) (r2 : Bool) (w : World) (hr0 : Kd.C (Kd.int .i64) w A0 l0.length l0) (hc0 : l0.length ≤ c0) (h : impl_ValueByRemainders.f k l0 a1 = some (r1, r2)) :
    Calls Tryz.prog 69 #[.slice A0 l0.length c0, .int .i64 a1] w fun e w' => e = .returned (.tuple #[.int .i64 r1, .bool r2]) ∧ Below w.heap.size w w' := by
  have HR := Aside0.mk hr0
  have HC := Aside0.mk hc0
  clear hr0 hc0
  unfold impl_ValueByRemainders.f at h
  obtain ⟨t, ht, h⟩ := Option.bind_eq_some_iff.mp h
  have HT := Aside0.mk ht
  clear ht
  cases t with
  | false =>
    have h' : some (0, false) = some (r1, r2) := h
    injection h' with h'
    injection h' with h1 h2
    subst h1 h2
    clear h
    go_enter Tryz.func69, Tryz.ntmps69
    go_wp2_with fail
    refine (impl_areRests.calls A0 c0 l0 false _ (Kd.C_alloc (Kd.C_alloc HR.out _) _) HC.out HT.out).mono ?_
    rintro e w1 ⟨rfl, hb⟩
    have B1 := Aside0.mk (below_to (below_alloc (below_alloc (Below.refl w.heap.size w) _) _) hb)
    clear hb
    go_wp2
    go_ret2
    exact ⟨rfl, B1.out⟩
  | true =>
    rw [if_pos rfl] at h
    obtain ⟨b, hb, h⟩ := Option.bind_eq_some_iff.mp h
    have HW := Aside0.mk hb
    clear hb
    cases b with
    | false =>
      have h' : some (0, false) = some (r1, r2) := h
      injection h' with h'
      injection h' with h1 h2
      subst h1 h2
      clear h
      go_enter Tryz.func69, Tryz.ntmps69
      go_wp2_with fail
      refine (impl_areRests.calls A0 c0 l0 true _ (Kd.C_alloc (Kd.C_alloc HR.out _) _) HC.out HT.out).mono ?_
      rintro e w1 ⟨rfl, hb⟩
      have c2 := Aside0.mk (show w1.cell? ⟨w.heap.size + 1, 0, none⟩ = some (.int .i64 a1) from (hb.cell (p := ⟨w.heap.size + 1, 0, none⟩) (by simp)).trans (by simp))
      have B1 := Aside0.mk (below_to (below_alloc (below_alloc (Below.refl w.heap.size w) _) _) hb)
      clear hb
      have s2 := c2.out
      go_wp2_with (go_at_call 159; (with_reducible refine (impl_within.calls a1 0 60 false _ HW.out).mono ?_); rintro e w2 ⟨rfl, ⟨nd, rfl⟩⟩)
      go_ret2
      exact ⟨rfl, pw_below_drewN B1.out _⟩
    | true =>
      rw [if_pos rfl] at h
      split at h
      · rename_i hc
        exact impl_ValueByRemainders.main k A0 c0 l0 a1 r1 r2 w HR HC HT HW hc.1 ⟨hc.2.1⟩ ⟨hc.2.2⟩ ⟨h⟩
      · cases h
end Go.Proofs.YtkgngggppcmpfaaGreat.L
end
section
namespace Go.Proofs.YtkgngggppcmpfaaGreat.L
open Go.RowKit Go.Proofs.YtkgngggppcmpfaaGreatW.PrintWords Go.Proofs.YtkgngggppcmpfaaGreatW.PrintLast Go.Proofs.YtkgngggppcmpfaaGreatW.PrintMore Go.Proofs.YtkgngggppcmpfaaGreat.X
attribute [local go_sem] max2_int min2_int max_two min_two max_three min_three max_four min_four
set_option linter.unusedVariables false
set_option linter.unusedSimpArgs false
def spec_DrawRemaindersOf.l0 : Nat → List Int → Int → List Int → Int → Int → Option (List Int × Int)
  | 0, _, _, _, _, _ => none
  | k + 1, x5, x6, x601000, x601001, x601002 => if x6 > 0 then ((spec_l1Cur_pick.f x601000 x601001 x601002 30).bind fun bt604 => (if x5.length < 17592186044416 then (spec_DrawRemaindersOf.l0 k (x5 ++ [bt604.1]) (wrap64 (x6 - 1)) x601000 bt604.2.1 bt604.2.2) else (none))) else ((spec_l1Cur_pick.f x601000 x601001 x601002 12).bind fun bt610 => (if bt610.1 = 0 then ((spec_l1Cur_among.f x601000 bt610.2.1 bt610.2.2 (([(-1), 1000000, 1000001] : List Int))).bind fun bt616 => (if 0 < (x5.length : Int) then ((spec_l1Cur_steps.f x601000 bt616.2.1 bt616.2.2).bind fun bt620 => (some ((x5.set (0 : Int).toNat bt616.1), bt620.1))) else (none))) else (if bt610.1 = 1 then ((spec_l1Cur_pick.f x601000 bt610.2.1 bt610.2.2 2).bind fun bt623 => (if 0 ≤ (wrap64 (100 + bt623.1)) then (if (wrap64 (100 + bt623.1) : Int).toNat ≤ 35184372088832 then ((spec_l1Cur_steps.f x601000 bt623.2.1 bt623.2.2).bind fun bt629 => (some ((List.replicate (wrap64 (100 + bt623.1) : Int).toNat 0), bt629.1))) else (none)) else (none))) else ((spec_l1Cur_steps.f x601000 bt610.2.1 bt610.2.2).bind fun bt632 => (some (x5, bt632.1))))))
def spec_DrawRemaindersOf.f (k : Nat) (l0 : List Int) : Option (List Int × Int) := (spec_l1Cur_pick.f l0 0 0 12).bind fun bt601 => (spec_DrawRemaindersOf.l0 k ([] : List Int) (wrap64 (1 + bt601.1)) l0 bt601.2.1 bt601.2.2)
theorem spec_DrawRemaindersOf.mono_l : ∀ k, (∀ y0 y1 y2 y3 y4, LeO (spec_DrawRemaindersOf.l0 k y0 y1 y2 y3 y4) (spec_DrawRemaindersOf.l0 (k + 1) y0 y1 y2 y3 y4))
  | 0 => fun _ _ _ _ _ r h => by simp [spec_DrawRemaindersOf.l0] at h
  | k + 1 => by
    have ih0 := spec_DrawRemaindersOf.mono_l k
    · intro y0 y1 y2 y3 y4
      unfold spec_DrawRemaindersOf.l0
      repeat' first
      | (with_reducible exact ih0 _ _ _ _ _)
      | (with_reducible exact LeO.refl _)
      | (with_reducible exact LeO.none _)
      | (with_reducible refine LeO.ite ?_ ?_)
      | (with_reducible refine LeO.bind ?_ (fun _ => ?_))
      | exact ih0 _ _ _ _ _
      | exact LeO.none _
      | refine LeO.ite ?_ ?_
      | refine LeO.bind ?_ (fun _ => ?_)
theorem spec_DrawRemaindersOf.mono : ∀ a0 k, LeO (spec_DrawRemaindersOf.f k a0) (spec_DrawRemaindersOf.f (k + 1) a0) := by
  intro a0 k
  have ih0 := spec_DrawRemaindersOf.mono_l k
  unfold spec_DrawRemaindersOf.f
  repeat' (with_reducible first | apply ih0 | exact LeO.refl _ | exact LeO.none _ | refine LeO.ite ?_ ?_ | refine LeO.bind ?_ (fun _ => ?_))
set_option maxHeartbeats 8000000 in
set_option maxRecDepth 100000 in
theorem spec_DrawRemaindersOf.calls (k : Nat) (A0 : Option Addr) (c0 : Nat) (l0 : List Int) (r1 : List Int) (r2 : Int) (w : World) (hr0 : Kd.C (Kd.int .u8) w A0 l0.length l0) (hc0 : l0.length ≤ c0) (h : spec_DrawRemaindersOf.f k l0 = some (r1, r2)) :
    Calls Tryz.prog 70 #[.slice A0 l0.length c0] w fun e w' => ∃ v0_ : Value, e = .returned (.tuple #[v0_, .int .i64 r2]) ∧ Kd.R (Kd.int .i64) 3 w' w.heap.size (fun _ => True) v0_ r1 ∧ Below w.heap.size w w' := by
  have hu94 := Tryz.underlying94
  have HR0 := Aside0.mk hr0
  have HC0 := Aside0.mk hc0
  clear hr0 hc0
  have HB := Aside0.mk (Below.refl w.heap.size w)
  have H : ((spec_l1Cur_pick.f l0 0 0 12).bind fun bt601 => (spec_DrawRemaindersOf.l0 k ([] : List Int) (wrap64 (1 + bt601.1)) l0 bt601.2.1 bt601.2.2)) = some (r1, r2) := h
  clear h
  obtain ⟨⟨t601, t602, t603⟩, A2, H⟩ := bs H; (try dsimp only at H)
  have H' := Aside0.mk H
  clear H
  go_enter Tryz.func70, Tryz.ntmps70
  go_wp2_with (first | ((with_reducible refine gate_dst (N := 9) rfl ?_); refine box_event ?hg (N := 9) ?hd (cs := #[.slice A0 l0.length c0, .int .i64 0, .int .u64 0]) (t := 94) ?hr ?_; (case hd => rfl); (case hg => rfl); (case hr => first | (go_simp; done) | (go_simp; rfl)); intro gb600 hg w3 hbox hb; have n0_ := Aside0.mk (below_step (by repeat (first | (with_reducible first | exact HB.out | apply below_alloc | apply pw_below_drewN | apply below_drew1) | exact HB.out)) hb); have n1_ := Aside0.mk ((⟨_, _, hbox, (by rw [hg]; exact (below_size (by repeat (first | (with_reducible first | exact HB.out | apply below_alloc | apply pw_below_drewN | apply below_drew1) | exact HB.out))) : w.heap.size ≤ gb600), HR0.out⟩ : IsS94 w _ gb600 l0 0 0)); have n2_ := Aside0.mk ((by rw [hg]; exact (below_size (by repeat (first | (with_reducible first | exact HB.out | apply below_alloc | apply pw_below_drewN | apply below_drew1) | exact HB.out))) : w.heap.size ≤ gb600)); have n3_ := Aside0.mk ((by rw [hg]; exact (below_size (by repeat (first | (with_reducible first | exact HB.out | apply below_alloc | apply pw_below_drewN | apply below_drew1) | exact HB.out))) : w.heap.size ≤ gb600)); clear HB; have HB := n0_; have HI600 := n1_; have GW600 := n2_; have GE600 := n3_; clear n0_ n1_ n2_ n3_; clear hb hbox hg) | ((with_reducible refine gate_callee (f := 162) rfl ?_); refine goesL_ (some 11) rfl rfl Tryz.func162 (by kernel_rfl) rfl #[.pointer (some ⟨gb600, 0, none⟩), .int .i64 12] rfl (by (try simp only [List.map_toArray, List.map_cons, List.map_nil]); first | done | rfl | (simp only [List.length_drop, List.length_take]; rfl)) ?_; (with_reducible refine (spec_l1Cur_pick.calls gb600 l0 0 0 12 t601 t602 t603 w _ ?side1 ?side2 A2.out).mono ?_); (case side1 => repeat (first | (with_reducible first | exact HI600.out | apply IsS94.alloc | apply IsS94.drewN | apply IsS94.drew | apply IsS94.set_1 | apply IsS94.set_2) | exact HI600.out)); (case side2 => repeat (first | (with_reducible first | exact HB.out | apply below_alloc | apply pw_below_drewN | apply below_drew1 | refine below_set ?_ (IsS94.ge HI600.out)) | exact HB.out)); rintro e w4 ⟨rfl, hi, hb, hk⟩; refine ⟨_, rfl, ?_⟩; have n0_ := Aside0.mk (hb); have n1_ := Aside0.mk (hi); clear HB; clear HI600; have HB := n0_; have HI600 := n1_; clear n0_ n1_; (try clear hb); (try clear hb2); (try clear hk); (try clear hi)))
  go_loopg [5, 6] k (fun kq v5 v6 w' => ∃ (x5_1 : List Int) (x6_1 : Int) (x601001_1 : Int) (x601002_1 : Int), v6 = .int .i64 x6_1 ∧ Aside0 (spec_DrawRemaindersOf.l0 kq x5_1 x6_1 l0 x601001_1 x601002_1 = some (r1, r2)) ∧ Aside0 (kq ≤ k) ∧ Aside0 (Kd.R (Kd.int .i64) 3 w' w.heap.size (fun _ => True) v5 x5_1) ∧ Aside0 (IsS94 w w' gb600 l0 x601001_1 x601002_1) ∧ Aside0 (Below w.heap.size w w'))
  case atStart => exact ⟨(([] : List Int)), (wrap64 (1 + t601)), (t602), (t603), (by first | rfl | (simp; done) | (simp [*]; done)), H', ⟨Nat.le_refl _⟩, ⟨by first | exact Kd.R_nil _ _ _ _ _ | exact Kd.N_nil _ _ _ _ _ | exact Kd.V_nil _ _ _ _ _ | exact Kd.Q_nil _ _ _ _ _ | exact Kd.S_nil _ _ _ _ _⟩, ⟨by repeat (first | (with_reducible first | exact HI600.out | apply IsS94.alloc | apply IsS94.drewN | apply IsS94.drew | apply IsS94.set_1 | apply IsS94.set_2) | exact HI600.out)⟩, ⟨(IsS94.vB HB)⟩⟩
  case round =>
    clear H'
    skip
    obtain ⟨x5_1, x6_1, x601001_1, x601002_1, rfl, HA, HK1, HO_5, HI600, HB⟩ := hrel
    cases gk with
    | zero => exact absurd HA.out (by simp [spec_DrawRemaindersOf.l0])
    | succ k1 =>
      have H := HA.out
      clear HA
      simp only [spec_DrawRemaindersOf.l0] at H
      by_cases c5 : x6_1 > 0
      · rw [if_pos c5] at H
        have c5b0 := decide_eq_true c5
        clear c5
        obtain ⟨⟨t604, t605, t606⟩, A6, H⟩ := bs H; (try dsimp only at H)
        by_cases c7 : x5_1.length < 17592186044416
        · rw [if_pos c7] at H
          have LMc7 := Aside0.mk c7
          clear c7
          obtain ⟨y607, hy607⟩ : ∃ y_ : List Int, y_ = (x5_1 ++ [t604]) := ⟨_, rfl⟩
          replace H : (spec_DrawRemaindersOf.l0 k1 y607 (wrap64 (x6_1 - 1)) l0 t605 t606) = some (r1, r2) := by first | (rw [hy607]; with_reducible exact H) | (have H2_ := (Option.bind_some _ _).symm.trans H; rw [hy607]; with_reducible exact H2_) | (have H2_ := (Option.bind_some _ _).symm.trans H; with_reducible exact H2_) | with_reducible exact H | (rw [hy607]; exact H) | exact H
          have Ny607 := Aside0.mk hy607
          clear hy607
          have H' := Aside0.mk H
          clear H
          go_wp2_with (first | ((with_reducible refine gate_callee (f := 162) rfl ?_); refine goesL_ (some 19) rfl rfl Tryz.func162 (by kernel_rfl) rfl #[.pointer (some ⟨gb600, 0, none⟩), .int .i64 30] rfl (by (try simp only [List.map_toArray, List.map_cons, List.map_nil]); first | done | rfl | (simp only [List.length_drop, List.length_take]; rfl)) ?_; (with_reducible refine (spec_l1Cur_pick.calls gb600 l0 x601001_1 x601002_1 30 t604 t605 t606 w _ ?side1 ?side2 A6.out).mono ?_); (case side1 => repeat (first | (with_reducible first | exact HI600.out | apply IsS94.alloc | apply IsS94.drewN | apply IsS94.drew | apply IsS94.set_1 | apply IsS94.set_2) | exact HI600.out)); (case side2 => repeat (first | (with_reducible first | exact HB.out | apply below_alloc | apply pw_below_drewN | apply below_drew1 | refine below_set ?_ (IsS94.ge HI600.out)) | exact HB.out)); rintro e w8 ⟨rfl, hi, hb, hk⟩; refine ⟨_, rfl, ?_⟩; have n0_ := Aside0.mk (Kd.R_mono (Kd.R_keep (IsS94.apart (show IsS94 w _ gb600 l0 x601001_1 x601002_1 from by repeat (first | (with_reducible first | exact HI600.out | apply IsS94.alloc | apply IsS94.drewN | apply IsS94.drew | apply IsS94.set_1 | apply IsS94.set_2) | exact HI600.out)) (by (with_reducible repeat (first | apply Kd.R_alloc | apply Kd.R_drewN | apply Kd.R_drew)); exact HO_5.out) (by decide)) hk (fun _ h => h.2)) (fun _ h => h.1)); have n1_ := Aside0.mk (hb); have n2_ := Aside0.mk (hi); clear HO_5; clear HB; clear HI600; have HO_5 := n0_; have HB := n1_; have HI600 := n2_; clear n0_ n1_ n2_; (try clear hb); (try clear hb2); (try clear hk); (try clear hi)) | ((with_reducible refine gate_builtin (b := .append) (xs := #[.tmp 17, .tmp 20]) rfl ?_); at_builtin; refine Kd.R_append (Kd.int .i64) (w0 := w) w.heap.size rfl (.tmp 17) (.tmp 20) 24 3 (.int .i64 0) 8 rfl Tryz.underlying24 info3 rfl (by decide) (by omega) u5 x5_1 t604 [.int .i64 t604] (fun _ => True) (fun _ => False) rfl rfl ?aP (fun _ hk => hk.elim) ?aF ?aO ?aB ?aS ?aL ?_; (case aP => exact rfl); (case aB => exact (by repeat (first | (with_reducible first | exact HB.out | apply below_alloc | apply pw_below_drewN | apply below_drew1 | refine below_set ?_ (IsS94.ge HI600.out)) | exact HB.out))); (case aF => exact (fun _ _ => trivial)); (case aO => exact (by (with_reducible repeat (first | apply Kd.R_alloc | apply Kd.R_drewN | apply Kd.R_drew)); exact HO_5.out)); (case aS => exact (below_size (by repeat (first | (with_reducible first | exact HB.out | apply below_alloc | apply pw_below_drewN | apply below_drew1 | refine below_set ?_ (IsS94.ge HI600.out)) | exact HB.out)))); (case aL => have := LMc7.out; omega); intro v608 w9 ho hb hg hat; rw [← Ny607.out] at ho; have n0_ := Aside0.mk (IsS94.grown (by repeat (first | (with_reducible first | exact HI600.out | apply IsS94.alloc | apply IsS94.drewN | apply IsS94.drew | apply IsS94.set_1 | apply IsS94.set_2) | exact HI600.out)) hg (IsS94.own_ne HI600.out HO_5.out (by decide))); have n1_ := Aside0.mk (hb); have n2_ := Aside0.mk (ho); clear HI600; clear HB; clear HO_5; have HI600 := n0_; have HB := n1_; have HO609 := n2_; clear n0_ n1_ n2_; clear ho hb hg hat))
          go_roundg k1
          case measure => have := HK1.out; omega
          case rel => exact ⟨(y607), (wrap64 (x6_1 - 1)), (t605), (t606), (by first | rfl | (simp; done) | (simp [*]; done)), H', ⟨by have := HK1.out; omega⟩, ⟨uR HO609⟩, ⟨by repeat (first | (with_reducible first | exact HI600.out | apply IsS94.alloc | apply IsS94.drewN | apply IsS94.drew | apply IsS94.set_1 | apply IsS94.set_2) | exact HI600.out)⟩, ⟨(IsS94.vB HB)⟩⟩
        · rw [if_neg c7] at H
          exact absurd H (by simp)
      · rw [if_neg c5] at H
        have c5b0 := decide_eq_false c5
        clear c5
        obtain ⟨⟨t610, t611, t612⟩, A10, H⟩ := bs H; (try dsimp only at H)
        by_cases c11 : t610 = 0
        · rw [if_pos c11] at H
          have c11b0 : (t610 == 0) = true := beq_iff_eq.mpr c11
          have c11b1 : (t610 != 0) = false := bne_eq_false_iff_eq.mpr c11
          clear c11
          obtain ⟨y613, hy613⟩ : ∃ y_ : List Int, y_ = (([(-1), 1000000, 1000001] : List Int)) := ⟨_, rfl⟩
          replace H : ((spec_l1Cur_among.f l0 t611 t612 y613).bind fun bt616 => (if 0 < (x5_1.length : Int) then ((spec_l1Cur_steps.f l0 bt616.2.1 bt616.2.2).bind fun bt620 => (some ((x5_1.set (0 : Int).toNat bt616.1), bt620.1))) else (none))) = some (r1, r2) := by first | (rw [hy613]; with_reducible exact H) | (have H2_ := (Option.bind_some _ _).symm.trans H; rw [hy613]; with_reducible exact H2_) | (have H2_ := (Option.bind_some _ _).symm.trans H; with_reducible exact H2_) | with_reducible exact H | (rw [hy613]; exact H) | exact H
          have Ny613 := Aside0.mk hy613
          clear hy613
          obtain ⟨⟨t616, t617, t618⟩, A12, H⟩ := bs H; (try dsimp only at H)
          by_cases c13 : 0 < (x5_1.length : Int)
          · rw [if_pos c13] at H
            have c13b0 := decide_eq_true c13
            have c13b1 : decide (0 < x5_1.length) = true := decide_eq_true (by omega)
            clear c13
            obtain ⟨y619, hy619⟩ : ∃ y_ : List Int, y_ = (x5_1.set (0 : Int).toNat t616) := ⟨_, rfl⟩
            replace H : ((spec_l1Cur_steps.f l0 t617 t618).bind fun bt620 => (some (y619, bt620.1))) = some (r1, r2) := by first | (rw [hy619]; with_reducible exact H) | (have H2_ := (Option.bind_some _ _).symm.trans H; rw [hy619]; with_reducible exact H2_) | (have H2_ := (Option.bind_some _ _).symm.trans H; with_reducible exact H2_) | with_reducible exact H | (rw [hy619]; exact H) | exact H
            have Ny619 := Aside0.mk hy619
            clear hy619
            obtain ⟨⟨t620, t621, t622⟩, A15, H⟩ := bs H; (try dsimp only at H)
            simp only [Option.some.injEq, Prod.mk.injEq] at H
            obtain ⟨rfl, rfl⟩ := H
            go_wp2_with (first | ((with_reducible refine gate_callee (f := 162) rfl ?_); refine goesL_ (some 23) rfl rfl Tryz.func162 (by kernel_rfl) rfl #[.pointer (some ⟨gb600, 0, none⟩), .int .i64 12] rfl (by (try simp only [List.map_toArray, List.map_cons, List.map_nil]); first | done | rfl | (simp only [List.length_drop, List.length_take]; rfl)) ?_; (with_reducible refine (spec_l1Cur_pick.calls gb600 l0 x601001_1 x601002_1 12 t610 t611 t612 w _ ?side1 ?side2 A10.out).mono ?_); (case side1 => repeat (first | (with_reducible first | exact HI600.out | apply IsS94.alloc | apply IsS94.drewN | apply IsS94.drew | apply IsS94.set_1 | apply IsS94.set_2) | exact HI600.out)); (case side2 => repeat (first | (with_reducible first | exact HB.out | apply below_alloc | apply pw_below_drewN | apply below_drew1 | refine below_set ?_ (IsS94.ge HI600.out)) | exact HB.out)); rintro e w16 ⟨rfl, hi, hb, hk⟩; refine ⟨_, rfl, ?_⟩; have n0_ := Aside0.mk (Kd.R_mono (Kd.R_keep (IsS94.apart (show IsS94 w _ gb600 l0 x601001_1 x601002_1 from by repeat (first | (with_reducible first | exact HI600.out | apply IsS94.alloc | apply IsS94.drewN | apply IsS94.drew | apply IsS94.set_1 | apply IsS94.set_2) | exact HI600.out)) (by (with_reducible repeat (first | apply Kd.R_alloc | apply Kd.R_drewN | apply Kd.R_drew)); exact HO_5.out) (by decide)) hk (fun _ h => h.2)) (fun _ h => h.1)); have n1_ := Aside0.mk (hb); have n2_ := Aside0.mk (hi); clear HO_5; clear HB; clear HI600; have HO_5 := n0_; have HB := n1_; have HI600 := n2_; clear n0_ n1_ n2_; (try clear hb); (try clear hb2); (try clear hk); (try clear hi)) | ((with_reducible refine gate_dst (N := 28) rfl ?_); refine Kd.R_lit (Kd.int .i64) _ 3 ?hg (N := 28) ?hd (xs := ([(-1), 1000000, 1000001] : List Int)) (inner := [.int .i64 (-1), .int .i64 1000000, .int .i64 1000001]) (ok := fun _ => True) (okp := fun _ => True) ?hr ?hp (fun _ hk => hk) trivial (Below.refl _ _) (Nat.le_refl _) (by simp) ?_; (case hd => rfl); (case hg => rfl); (case hr => first | (go_simp; done) | (go_simp; rfl)); (case hp => exact (Reps.one (show Kd.M (Kd.int .i64) _ _ _ (-1) [.int .i64 (-1)] from rfl) (Reps.one (show Kd.M (Kd.int .i64) _ _ _ 1000000 [.int .i64 1000000] from rfl) (Reps.one (show Kd.M (Kd.int .i64) _ _ _ 1000001 [.int .i64 1000001] from rfl) (Reps.none _ _))))); intro v614 w17 ho18 hb hg_ hnew_; clear hg_ hnew_; (first | rw [← Ny613.out] at ho18 | (simp only [Int.reduceToNat] at ho18; rw [← Ny613.out] at ho18)); have n0_ := Aside0.mk (Kd.R_elder' (by (with_reducible repeat (first | apply Kd.R_alloc | apply Kd.R_drewN | apply Kd.R_drew)); exact HO_5.out) (Kd.R_base ho18) hb); have n1_ := Aside0.mk (Kd.R_lower (Kd.R_new' ho18 (Kd.R_lt (by (with_reducible repeat (first | apply Kd.R_alloc | apply Kd.R_drewN | apply Kd.R_drew)); exact HO_5.out))) (below_size (by repeat (first | (with_reducible first | exact HB.out | apply below_alloc | apply pw_below_drewN | apply below_drew1 | refine below_set ?_ (IsS94.ge HI600.out)) | exact HB.out)))); have n2_ := Aside0.mk (IsS94.below (by repeat (first | (with_reducible first | exact HI600.out | apply IsS94.alloc | apply IsS94.drewN | apply IsS94.drew | apply IsS94.set_1 | apply IsS94.set_2) | exact HI600.out)) hb); have n3_ := Aside0.mk (below_step (by repeat (first | (with_reducible first | exact HB.out | apply below_alloc | apply pw_below_drewN | apply below_drew1 | refine below_set ?_ (IsS94.ge HI600.out)) | exact HB.out)) hb); clear HO_5; clear HI600; clear HB; have HO_5 := n0_; have HO615 := n1_; have HI600 := n2_; have HB := n3_; clear n0_ n1_ n2_ n3_; clear hb ho18; obtain ⟨Ao19, co19, eo19⟩ := Kd.R_slice HO615.out; subst eo19) | ((with_reducible refine gate_callee (f := 190) rfl ?_); refine goesL_ (some 29) rfl rfl Tryz.func190 (by kernel_rfl) rfl #[.pointer (some ⟨gb600, 0, none⟩), .slice Ao19 y613.length co19] rfl (by (try simp only [List.map_toArray, List.map_cons, List.map_nil]); first | done | rfl | (simp only [List.length_drop, List.length_take]; rfl)) ?_; (with_reducible refine (spec_l1Cur_among.calls gb600 l0 t611 t612 _ _ y613 t616 t617 t618 w _ ?side1 ?side2 ?side3 ?side4 ?side5 A12.out).mono ?_); (case side1 => repeat (first | (with_reducible first | exact HI600.out | apply IsS94.alloc | apply IsS94.drewN | apply IsS94.drew | apply IsS94.set_1 | apply IsS94.set_2) | exact HI600.out)); (case side2 => repeat (first | (with_reducible first | exact HB.out | apply below_alloc | apply pw_below_drewN | apply below_drew1 | refine below_set ?_ (IsS94.ge HI600.out)) | exact HB.out)); (case side3 => repeat (first | exact (Kd.R_reads' HO615.out).2.2 | (with_reducible refine Kd.C_alloc ?_ _) | (with_reducible refine Kd.C_drewN ?_ _) | (with_reducible refine Kd.C_drew ?_))); (case side4 => exact (Kd.R_reads' HO615.out).2.1); (case side5 => exact far_slice (IsS94.own_ne HI600.out HO615.out (by decide))); rintro e w20 ⟨rfl, hi, hb, hk⟩; refine ⟨_, rfl, ?_⟩; have n0_ := Aside0.mk (Kd.R_mono (Kd.R_keep (IsS94.apart (show IsS94 w _ gb600 l0 t611 t612 from by repeat (first | (with_reducible first | exact HI600.out | apply IsS94.alloc | apply IsS94.drewN | apply IsS94.drew | apply IsS94.set_1 | apply IsS94.set_2) | exact HI600.out)) (by (with_reducible repeat (first | apply Kd.R_alloc | apply Kd.R_drewN | apply Kd.R_drew)); exact HO_5.out) (by decide)) hk (fun _ h => h.2)) (fun _ h => h.1)); have n1_ := Aside0.mk (Kd.R_mono (Kd.R_keep (IsS94.apart (show IsS94 w _ gb600 l0 t611 t612 from by repeat (first | (with_reducible first | exact HI600.out | apply IsS94.alloc | apply IsS94.drewN | apply IsS94.drew | apply IsS94.set_1 | apply IsS94.set_2) | exact HI600.out)) (by (with_reducible repeat (first | apply Kd.R_alloc | apply Kd.R_drewN | apply Kd.R_drew)); exact HO615.out) (by decide)) hk (fun _ h => h.2)) (fun _ h => h.1)); have n2_ := Aside0.mk (hb); have n3_ := Aside0.mk (hi); clear HO_5; clear HO615; clear HB; clear HI600; have HO_5 := n0_; have HO615 := n1_; have HB := n2_; have HI600 := n3_; clear n0_ n1_ n2_ n3_; (try clear hb); (try clear hb2); (try clear hk); (try clear hi); have p14 : 0 ≤ (0 : Int) := (by omega); have q14 : (0 : Int) < ((x5_1.length : Int) : Int) := of_decide_eq_true (by first | (with_reducible assumption) | assumption); have qi14 : (0 < x5_1.length) = True := eq_true (by omega); obtain ⟨go14, co14, eo14, gb14, gl14, cl14, HG14⟩ := Kd.R_form HO_5.out (by omega); (first | cases eo14 | (injection eo14 with ea_ en_ ec_; (first | subst ea_ | (injection ea_ with ea_; subst ea_)); subst ec_; clear en_)); have GB14 := Aside0.mk gb14; have GG14 := Aside0.mk HG14; clear gb14 gl14 HG14; obtain ⟨hx14_0, hf14_0⟩ := Kd.R_celln 0 HO_5.out (0 : Int) p14 q14; (try rw [show ((0 : Int)).toNat = 0 from rfl] at hx14_0); (try simp only [Nat.reduceMul, Nat.zero_mul, Nat.zero_add, Nat.reduceAdd] at hx14_0); (try rw [show ((0 : Int)).toNat = 0 from rfl] at hf14_0); (try simp only [Nat.reduceMul, Nat.zero_mul, Nat.zero_add, Nat.reduceAdd] at hf14_0); replace p14 := eq_true p14; replace q14 := eq_true q14; have n_ := Aside0.mk (Kd.R_mono (ok' := (fun k_ => some k_ ≠ (.slice Ao19 y613.length co19 : Value).ownBlock)) HO_5.out (fun k_ hk => hk.2)); clear HO_5; have HO_5 := n_; clear n_; obtain ⟨hy21_, hz21_⟩ := Kd.R_celln 0 HO_5.out (0 : Int) (by omega) (of_decide_eq_true (by first | (with_reducible assumption) | assumption)); (try simp only [Int.reduceToNat, Int.toNat_zero, Int.toNat_ofNat, Nat.reduceMul, Nat.zero_mul, Nat.zero_add] at hy21_ hz21_); (try rw [show ((0 : Int)).toNat = 0 from rfl] at hy21_); (try rw [show ((0 : Int)).toNat = 0 from rfl] at hz21_); have HP21 := Kd.R_putg HO_5.out (0 : Int) t616) | ((with_reducible refine gate_store (t := 3) (p := 30) rfl ?_); refine store_event (t := 3) (p := 30) (v := ?vo_w22) (w1 := (w20.setCell ⟨go14, (0 : Int).toNat, none⟩ (.int .i64 t616))) ?hg ?ho ?hn ?hr ?_; (case ho => rfl); (case hg => rfl); (case hn => rfl); (case hr => first | (go_simp; done) | (go_simp; rfl)); intro w22 hw; have hg : w20.grownBy w22 (some go14) := (by rw [hw]; exact HP21.2); have hp_ : Kd.R (Kd.int .i64) 3 w22 w.heap.size (fun k_ => some k_ ≠ (.slice Ao19 y613.length co19 : Value).ownBlock) (.slice (some ⟨go14, 0, none⟩) x5_1.length co14) y619 := (by rw [hw, Ny619.out]; exact HP21.1); clear HP21; have n0_ := Aside0.mk (hp_); have n1_ := Aside0.mk (IsS94.grown (by repeat (first | (with_reducible first | exact HI600.out | apply IsS94.alloc | apply IsS94.drewN | apply IsS94.drew | apply IsS94.set_1 | apply IsS94.set_2) | exact HI600.out)) hg (IsS94.own_ne HI600.out HO_5.out (by decide))); have n2_ := Aside0.mk (Kd.R_after (v := (.slice (some ⟨go14, 0, none⟩) x5_1.length co14)) (v1 := (.slice (some ⟨go14, 0, none⟩) x5_1.length co14)) (ok := (fun _ => True)) (by (with_reducible repeat (first | apply Kd.R_alloc | apply Kd.R_drewN | apply Kd.R_drew)); exact HO615.out) hg (.inl rfl)); have n3_ := Aside0.mk ((by rw [hw]; exact below_set (HB.out) GB14.out : Below w.heap.size w w22)); clear HO_5; clear HI600; clear HO615; clear HB; have HO_5 := n0_; have HI600 := n1_; have HO615 := n2_; have HB := n3_; clear n0_ n1_ n2_ n3_; clear hg hw hp_) | ((with_reducible refine gate_callee (f := 214) rfl ?_); refine goesL_ (some 39) rfl rfl Tryz.func214 (by kernel_rfl) rfl #[.pointer (some ⟨gb600, 0, none⟩)] rfl (by (try simp only [List.map_toArray, List.map_cons, List.map_nil]); first | done | rfl | (simp only [List.length_drop, List.length_take]; rfl)) ?_; (with_reducible refine (spec_l1Cur_steps.calls gb600 l0 t617 t618 t620 t621 t622 w _ ?side1 ?side2 A15.out).mono ?_); (case side1 => repeat (first | (with_reducible first | exact HI600.out | apply IsS94.alloc | apply IsS94.drewN | apply IsS94.drew | apply IsS94.set_1 | apply IsS94.set_2) | exact HI600.out)); (case side2 => repeat (first | (with_reducible first | exact HB.out | apply below_alloc | apply pw_below_drewN | apply below_drew1 | refine below_set ?_ (IsS94.ge HI600.out)) | exact HB.out)); rintro e w23 ⟨rfl, hi, hb, hk⟩; refine ⟨_, rfl, ?_⟩; have n0_ := Aside0.mk (Kd.R_mono (Kd.R_keep (IsS94.apart (show IsS94 w _ gb600 l0 t617 t618 from by repeat (first | (with_reducible first | exact HI600.out | apply IsS94.alloc | apply IsS94.drewN | apply IsS94.drew | apply IsS94.set_1 | apply IsS94.set_2) | exact HI600.out)) (by (with_reducible repeat (first | apply Kd.R_alloc | apply Kd.R_drewN | apply Kd.R_drew)); exact HO_5.out) (by decide)) hk (fun _ h => h.2)) (fun _ h => h.1)); have n1_ := Aside0.mk (Kd.R_mono (Kd.R_keep (IsS94.apart (show IsS94 w _ gb600 l0 t617 t618 from by repeat (first | (with_reducible first | exact HI600.out | apply IsS94.alloc | apply IsS94.drewN | apply IsS94.drew | apply IsS94.set_1 | apply IsS94.set_2) | exact HI600.out)) (by (with_reducible repeat (first | apply Kd.R_alloc | apply Kd.R_drewN | apply Kd.R_drew)); exact HO615.out) (by decide)) hk (fun _ h => h.2)) (fun _ h => h.1)); have n2_ := Aside0.mk (hb); have n3_ := Aside0.mk (hi); clear HO_5; clear HO615; clear HB; clear HI600; have HO_5 := n0_; have HO615 := n1_; have HB := n2_; have HI600 := n3_; clear n0_ n1_ n2_ n3_; (try clear hb); (try clear hb2); (try clear hk); (try clear hi)))
            go_ret2
            exact ⟨_, by first | rfl | (simp [errW_none, errW_some] <;> rfl) | (simp [*, errW_none, errW_some] <;> rfl), Kd.R_mono (uR HO_5) (fun _ hk => trivial), (IsS94.vB HB)⟩
          · rw [if_neg c13] at H
            exact absurd H (by simp)
        · rw [if_neg c11] at H
          have c11b0 : (t610 == 0) = false := beq_eq_false_iff_ne.mpr c11
          have c11b1 : (t610 != 0) = true := bne_iff_ne.mpr c11
          by_cases c24 : t610 = 1
          · rw [if_pos c24] at H
            have c24b0 : (t610 == 1) = true := beq_iff_eq.mpr c24
            have c24b1 : (t610 != 1) = false := bne_eq_false_iff_eq.mpr c24
            clear c24
            obtain ⟨⟨t623, t624, t625⟩, A25, H⟩ := bs H; (try dsimp only at H)
            obtain ⟨ji26, hji26⟩ : ∃ j_ : Int, (wrap64 (100 + t623)) = j_ := ⟨_, rfl⟩
            replace H : (if 0 ≤ (ji26) then (if (ji26 : Int).toNat ≤ 35184372088832 then ((spec_l1Cur_steps.f l0 t624 t625).bind fun bt629 => (some ((List.replicate (ji26 : Int).toNat 0), bt629.1))) else (none)) else (none)) = some (r1, r2) := by first | (rw [hji26] at H; exact H) | (simp only [hji26] at H ⊢; exact H)
            (try rw [hji26] at A10)
            (try rw [hji26] at A25)
            have hji26w : (IntKind.i64.wrap (100 + t623)) = ji26 := (i64_w _).trans hji26
            by_cases c27 : 0 ≤ (ji26)
            · rw [if_pos c27] at H
              have c27b0 := eq_true c27
              have c27b1 := decide_eq_true c27
              clear c27
              by_cases c28 : (ji26 : Int).toNat ≤ 35184372088832
              · rw [if_pos c28] at H
                have c28b0 := eq_true c28
                have c28b1 := decide_eq_true c28
                clear c28
                obtain ⟨y626, hy626⟩ : ∃ y_ : List Int, y_ = (List.replicate (ji26 : Int).toNat 0) := ⟨_, rfl⟩
                replace H : ((spec_l1Cur_steps.f l0 t624 t625).bind fun bt629 => (some (y626, bt629.1))) = some (r1, r2) := by first | (rw [hy626]; with_reducible exact H) | (have H2_ := (Option.bind_some _ _).symm.trans H; rw [hy626]; with_reducible exact H2_) | (have H2_ := (Option.bind_some _ _).symm.trans H; with_reducible exact H2_) | with_reducible exact H | (rw [hy626]; exact H) | exact H
                have Ny626 := Aside0.mk hy626
                clear hy626
                obtain ⟨⟨t629, t630, t631⟩, A29, H⟩ := bs H; (try dsimp only at H)
                simp only [Option.some.injEq, Prod.mk.injEq] at H
                obtain ⟨rfl, rfl⟩ := H
                go_wp2_with (first | ((with_reducible refine gate_callee (f := 162) rfl ?_); refine goesL_ (some 23) rfl rfl Tryz.func162 (by kernel_rfl) rfl #[.pointer (some ⟨gb600, 0, none⟩), .int .i64 12] rfl (by (try simp only [List.map_toArray, List.map_cons, List.map_nil]); first | done | rfl | (simp only [List.length_drop, List.length_take]; rfl)) ?_; (with_reducible refine (spec_l1Cur_pick.calls gb600 l0 x601001_1 x601002_1 12 t610 t611 t612 w _ ?side1 ?side2 A10.out).mono ?_); (case side1 => repeat (first | (with_reducible first | exact HI600.out | apply IsS94.alloc | apply IsS94.drewN | apply IsS94.drew | apply IsS94.set_1 | apply IsS94.set_2) | exact HI600.out)); (case side2 => repeat (first | (with_reducible first | exact HB.out | apply below_alloc | apply pw_below_drewN | apply below_drew1 | refine below_set ?_ (IsS94.ge HI600.out)) | exact HB.out)); rintro e w30 ⟨rfl, hi, hb, hk⟩; refine ⟨_, rfl, ?_⟩; have n0_ := Aside0.mk (Kd.R_mono (Kd.R_keep (IsS94.apart (show IsS94 w _ gb600 l0 x601001_1 x601002_1 from by repeat (first | (with_reducible first | exact HI600.out | apply IsS94.alloc | apply IsS94.drewN | apply IsS94.drew | apply IsS94.set_1 | apply IsS94.set_2) | exact HI600.out)) (by (with_reducible repeat (first | apply Kd.R_alloc | apply Kd.R_drewN | apply Kd.R_drew)); exact HO_5.out) (by decide)) hk (fun _ h => h.2)) (fun _ h => h.1)); have n1_ := Aside0.mk (hb); have n2_ := Aside0.mk (hi); clear HO_5; clear HB; clear HI600; have HO_5 := n0_; have HB := n1_; have HI600 := n2_; clear n0_ n1_ n2_; (try clear hb); (try clear hb2); (try clear hk); (try clear hi)) | ((with_reducible refine gate_callee (f := 162) rfl ?_); refine goesL_ (some 34) rfl rfl Tryz.func162 (by kernel_rfl) rfl #[.pointer (some ⟨gb600, 0, none⟩), .int .i64 2] rfl (by (try simp only [List.map_toArray, List.map_cons, List.map_nil]); first | done | rfl | (simp only [List.length_drop, List.length_take]; rfl)) ?_; (with_reducible refine (spec_l1Cur_pick.calls gb600 l0 t611 t612 2 t623 t624 t625 w _ ?side1 ?side2 A25.out).mono ?_); (case side1 => repeat (first | (with_reducible first | exact HI600.out | apply IsS94.alloc | apply IsS94.drewN | apply IsS94.drew | apply IsS94.set_1 | apply IsS94.set_2) | exact HI600.out)); (case side2 => repeat (first | (with_reducible first | exact HB.out | apply below_alloc | apply pw_below_drewN | apply below_drew1 | refine below_set ?_ (IsS94.ge HI600.out)) | exact HB.out)); rintro e w31 ⟨rfl, hi, hb, hk⟩; refine ⟨_, rfl, ?_⟩; have n0_ := Aside0.mk (Kd.R_mono (Kd.R_keep (IsS94.apart (show IsS94 w _ gb600 l0 t611 t612 from by repeat (first | (with_reducible first | exact HI600.out | apply IsS94.alloc | apply IsS94.drewN | apply IsS94.drew | apply IsS94.set_1 | apply IsS94.set_2) | exact HI600.out)) (by (with_reducible repeat (first | apply Kd.R_alloc | apply Kd.R_drewN | apply Kd.R_drew)); exact HO_5.out) (by decide)) hk (fun _ h => h.2)) (fun _ h => h.1)); have n1_ := Aside0.mk (hb); have n2_ := Aside0.mk (hi); clear HO_5; clear HB; clear HI600; have HO_5 := n0_; have HB := n1_; have HI600 := n2_; clear n0_ n1_ n2_; (try clear hb); (try clear hb2); (try clear hk); (try clear hi)) | ((with_reducible refine gate_dst (N := 36) rfl ?_); refine Kd.R_make (Kd.int .i64) _ 3 rfl (N := 36) rfl 24 _ _ rfl ji26 rfl rfl Tryz.underlying24 (.int .i64 0) 8 info3 rfl (by decide) (by omega) 0 (ok := fun _ => True) (okp := fun _ => True) rfl (fun _ hk => hk) trivial (of_decide_eq_true (by first | (with_reducible assumption) | assumption)) (Nat.le_trans (Nat.mul_le_mul_right _ (of_decide_eq_true (by first | (with_reducible assumption) | assumption) : ji26.toNat ≤ 35184372088832)) (by omega)) (Below.refl _ _) (Nat.le_refl _) ?_; intro v627 w32 ho33 hb hg_ hnew_; clear hg_ hnew_; (first | rw [← Ny626.out] at ho33 | (simp only [Int.reduceToNat] at ho33; rw [← Ny626.out] at ho33)); have n0_ := Aside0.mk (Kd.R_elder' (by (with_reducible repeat (first | apply Kd.R_alloc | apply Kd.R_drewN | apply Kd.R_drew)); exact HO_5.out) (Kd.R_base ho33) hb); have n1_ := Aside0.mk (Kd.R_lower (Kd.R_new' ho33 (Kd.R_lt (by (with_reducible repeat (first | apply Kd.R_alloc | apply Kd.R_drewN | apply Kd.R_drew)); exact HO_5.out))) (below_size (by repeat (first | (with_reducible first | exact HB.out | apply below_alloc | apply pw_below_drewN | apply below_drew1 | refine below_set ?_ (IsS94.ge HI600.out)) | exact HB.out)))); have n2_ := Aside0.mk (IsS94.below (by repeat (first | (with_reducible first | exact HI600.out | apply IsS94.alloc | apply IsS94.drewN | apply IsS94.drew | apply IsS94.set_1 | apply IsS94.set_2) | exact HI600.out)) hb); have n3_ := Aside0.mk (below_step (by repeat (first | (with_reducible first | exact HB.out | apply below_alloc | apply pw_below_drewN | apply below_drew1 | refine below_set ?_ (IsS94.ge HI600.out)) | exact HB.out)) hb); clear HO_5; clear HI600; clear HB; have HO_5 := n0_; have HO628 := n1_; have HI600 := n2_; have HB := n3_; clear n0_ n1_ n2_ n3_; clear hb ho33) | ((with_reducible refine gate_callee (f := 214) rfl ?_); refine goesL_ (some 39) rfl rfl Tryz.func214 (by kernel_rfl) rfl #[.pointer (some ⟨gb600, 0, none⟩)] rfl (by (try simp only [List.map_toArray, List.map_cons, List.map_nil]); first | done | rfl | (simp only [List.length_drop, List.length_take]; rfl)) ?_; (with_reducible refine (spec_l1Cur_steps.calls gb600 l0 t624 t625 t629 t630 t631 w _ ?side1 ?side2 A29.out).mono ?_); (case side1 => repeat (first | (with_reducible first | exact HI600.out | apply IsS94.alloc | apply IsS94.drewN | apply IsS94.drew | apply IsS94.set_1 | apply IsS94.set_2) | exact HI600.out)); (case side2 => repeat (first | (with_reducible first | exact HB.out | apply below_alloc | apply pw_below_drewN | apply below_drew1 | refine below_set ?_ (IsS94.ge HI600.out)) | exact HB.out)); rintro e w34 ⟨rfl, hi, hb, hk⟩; refine ⟨_, rfl, ?_⟩; have n0_ := Aside0.mk (Kd.R_mono (Kd.R_keep (IsS94.apart (show IsS94 w _ gb600 l0 t624 t625 from by repeat (first | (with_reducible first | exact HI600.out | apply IsS94.alloc | apply IsS94.drewN | apply IsS94.drew | apply IsS94.set_1 | apply IsS94.set_2) | exact HI600.out)) (by (with_reducible repeat (first | apply Kd.R_alloc | apply Kd.R_drewN | apply Kd.R_drew)); exact HO_5.out) (by decide)) hk (fun _ h => h.2)) (fun _ h => h.1)); have n1_ := Aside0.mk (Kd.R_mono (Kd.R_keep (IsS94.apart (show IsS94 w _ gb600 l0 t624 t625 from by repeat (first | (with_reducible first | exact HI600.out | apply IsS94.alloc | apply IsS94.drewN | apply IsS94.drew | apply IsS94.set_1 | apply IsS94.set_2) | exact HI600.out)) (by (with_reducible repeat (first | apply Kd.R_alloc | apply Kd.R_drewN | apply Kd.R_drew)); exact HO628.out) (by decide)) hk (fun _ h => h.2)) (fun _ h => h.1)); have n2_ := Aside0.mk (hb); have n3_ := Aside0.mk (hi); clear HO_5; clear HO628; clear HB; clear HI600; have HO_5 := n0_; have HO628 := n1_; have HB := n2_; have HI600 := n3_; clear n0_ n1_ n2_ n3_; (try clear hb); (try clear hb2); (try clear hk); (try clear hi)))
                go_ret2
                exact ⟨_, by first | rfl | (simp [errW_none, errW_some] <;> rfl) | (simp only [← hji26]; first | rfl | (simp [errW_none, errW_some] <;> rfl)) | (simp [*, errW_none, errW_some] <;> rfl), Kd.R_mono (uR HO628) (fun _ hk => trivial), (IsS94.vB HB)⟩
              · rw [if_neg c28] at H
                exact absurd H (by simp)
            · rw [if_neg c27] at H
              exact absurd H (by simp)
          · rw [if_neg c24] at H
            have c24b0 : (t610 == 1) = false := beq_eq_false_iff_ne.mpr c24
            have c24b1 : (t610 != 1) = true := bne_iff_ne.mpr c24
            obtain ⟨⟨t632, t633, t634⟩, A35, H⟩ := bs H; (try dsimp only at H)
            simp only [Option.some.injEq, Prod.mk.injEq] at H
            obtain ⟨rfl, rfl⟩ := H
            go_wp2_with (first | ((with_reducible refine gate_callee (f := 162) rfl ?_); refine goesL_ (some 23) rfl rfl Tryz.func162 (by kernel_rfl) rfl #[.pointer (some ⟨gb600, 0, none⟩), .int .i64 12] rfl (by (try simp only [List.map_toArray, List.map_cons, List.map_nil]); first | done | rfl | (simp only [List.length_drop, List.length_take]; rfl)) ?_; (with_reducible refine (spec_l1Cur_pick.calls gb600 l0 x601001_1 x601002_1 12 t610 t611 t612 w _ ?side1 ?side2 A10.out).mono ?_); (case side1 => repeat (first | (with_reducible first | exact HI600.out | apply IsS94.alloc | apply IsS94.drewN | apply IsS94.drew | apply IsS94.set_1 | apply IsS94.set_2) | exact HI600.out)); (case side2 => repeat (first | (with_reducible first | exact HB.out | apply below_alloc | apply pw_below_drewN | apply below_drew1 | refine below_set ?_ (IsS94.ge HI600.out)) | exact HB.out)); rintro e w36 ⟨rfl, hi, hb, hk⟩; refine ⟨_, rfl, ?_⟩; have n0_ := Aside0.mk (Kd.R_mono (Kd.R_keep (IsS94.apart (show IsS94 w _ gb600 l0 x601001_1 x601002_1 from by repeat (first | (with_reducible first | exact HI600.out | apply IsS94.alloc | apply IsS94.drewN | apply IsS94.drew | apply IsS94.set_1 | apply IsS94.set_2) | exact HI600.out)) (by (with_reducible repeat (first | apply Kd.R_alloc | apply Kd.R_drewN | apply Kd.R_drew)); exact HO_5.out) (by decide)) hk (fun _ h => h.2)) (fun _ h => h.1)); have n1_ := Aside0.mk (hb); have n2_ := Aside0.mk (hi); clear HO_5; clear HB; clear HI600; have HO_5 := n0_; have HB := n1_; have HI600 := n2_; clear n0_ n1_ n2_; (try clear hb); (try clear hb2); (try clear hk); (try clear hi)) | ((with_reducible refine gate_callee (f := 214) rfl ?_); refine goesL_ (some 39) rfl rfl Tryz.func214 (by kernel_rfl) rfl #[.pointer (some ⟨gb600, 0, none⟩)] rfl (by (try simp only [List.map_toArray, List.map_cons, List.map_nil]); first | done | rfl | (simp only [List.length_drop, List.length_take]; rfl)) ?_; (with_reducible refine (spec_l1Cur_steps.calls gb600 l0 t611 t612 t632 t633 t634 w _ ?side1 ?side2 A35.out).mono ?_); (case side1 => repeat (first | (with_reducible first | exact HI600.out | apply IsS94.alloc | apply IsS94.drewN | apply IsS94.drew | apply IsS94.set_1 | apply IsS94.set_2) | exact HI600.out)); (case side2 => repeat (first | (with_reducible first | exact HB.out | apply below_alloc | apply pw_below_drewN | apply below_drew1 | refine below_set ?_ (IsS94.ge HI600.out)) | exact HB.out)); rintro e w37 ⟨rfl, hi, hb, hk⟩; refine ⟨_, rfl, ?_⟩; have n0_ := Aside0.mk (Kd.R_mono (Kd.R_keep (IsS94.apart (show IsS94 w _ gb600 l0 t611 t612 from by repeat (first | (with_reducible first | exact HI600.out | apply IsS94.alloc | apply IsS94.drewN | apply IsS94.drew | apply IsS94.set_1 | apply IsS94.set_2) | exact HI600.out)) (by (with_reducible repeat (first | apply Kd.R_alloc | apply Kd.R_drewN | apply Kd.R_drew)); exact HO_5.out) (by decide)) hk (fun _ h => h.2)) (fun _ h => h.1)); have n1_ := Aside0.mk (hb); have n2_ := Aside0.mk (hi); clear HO_5; clear HB; clear HI600; have HO_5 := n0_; have HB := n1_; have HI600 := n2_; clear n0_ n1_ n2_; (try clear hb); (try clear hb2); (try clear hk); (try clear hi)))
            go_ret2
            exact ⟨_, by first | rfl | (simp [errW_none, errW_some] <;> rfl) | (simp [*, errW_none, errW_some] <;> rfl), uR HO_5, (IsS94.vB HB)⟩
def spec_l1All.l0 : Nat → Int → Int → List Int → Int → Int → Option (Bool)
  | 0, _, _, _, _, _ => none
  | k + 1, x1, x2, x9, x10, x11 => if x11 < x10 then (if 0 ≤ x11 then (if x11 < (x9.length : Int) then ((spec_l1In.f (rd x9 x11) x1 x2).bind fun t636 => (if t636 = true then (spec_l1All.l0 k x1 x2 x9 x10 (wrap64 (x11 + 1))) else (some false))) else (none)) else (none)) else (some true)
def spec_l1All.f (k : Nat) (l0 : List Int) (a1 : Int) (a2 : Int) : Option (Bool) := spec_l1All.l0 k a1 a2 l0 (l0.length : Int) 0
theorem spec_l1All.mono_l : ∀ k, (∀ y0 y1 y2 y3 y4, LeO (spec_l1All.l0 k y0 y1 y2 y3 y4) (spec_l1All.l0 (k + 1) y0 y1 y2 y3 y4))
  | 0 => fun _ _ _ _ _ r h => by simp [spec_l1All.l0] at h
  | k + 1 => by
    have ih0 := spec_l1All.mono_l k
    · intro y0 y1 y2 y3 y4
      unfold spec_l1All.l0
      repeat' first
      | (with_reducible exact ih0 _ _ _ _ _)
      | (with_reducible exact LeO.refl _)
      | (with_reducible exact LeO.none _)
      | (with_reducible refine LeO.ite ?_ ?_)
      | (with_reducible refine LeO.bind ?_ (fun _ => ?_))
      | exact ih0 _ _ _ _ _
      | exact LeO.none _
      | refine LeO.ite ?_ ?_
      | refine LeO.bind ?_ (fun _ => ?_)
theorem spec_l1All.mono : ∀ a0 a1 a2 k, LeO (spec_l1All.f k a0 a1 a2) (spec_l1All.f (k + 1) a0 a1 a2) := by
  intro a0 a1 a2 k
  have ih0 := spec_l1All.mono_l k
  unfold spec_l1All.f
  repeat' (with_reducible first | apply ih0 | exact LeO.refl _ | exact LeO.none _ | refine LeO.ite ?_ ?_ | refine LeO.bind ?_ (fun _ => ?_))
set_option maxHeartbeats 8000000 in
set_option maxRecDepth 100000 in
theorem spec_l1All.calls (k : Nat) (A0 : Option Addr) (c0 : Nat) (l0 : List Int) (a1 : Int) (a2 : Int) (r : Bool) (w : World) (hr0 : Kd.C (Kd.int .i64) w A0 l0.length l0) (hc0 : l0.length ≤ c0) (h : spec_l1All.f k l0 a1 a2 = some r) :
    Calls Tryz.prog 224 #[.slice A0 l0.length c0, .int .i64 a1, .int .i64 a2] w fun e w' => e = .returned (.bool r) ∧ Drawn0 w w' := by
  have HR0 := Aside0.mk hr0
  have HC0 := Aside0.mk hc0
  clear hr0 hc0
  have H : (spec_l1All.l0 k a1 a2 l0 (l0.length : Int) 0) = some r := h
  clear h
  have H' := Aside0.mk H
  clear H
  go_enter Tryz.func224, Tryz.ntmps224
  go_wp2
  go_loopg [11] k (fun kq v11 w' => ∃ (x11_1 : Int), v11 = .int .i64 x11_1 ∧ Aside0 (spec_l1All.l0 kq a1 a2 l0 (l0.length : Int) x11_1 = some r) ∧ Aside0 (kq ≤ k) ∧ Drawn0 w w')
  case atStart => exact ⟨(0), (by first | rfl | (simp; done) | (simp [*]; done)), H', ⟨Nat.le_refl _⟩, by repeat (first | exact Drawn0.refl _ | apply Drawn0.step)⟩
  case round =>
    clear H'
    skip
    obtain ⟨x11_1, rfl, HA, HK1, ⟨m1, rfl⟩⟩ := hrel
    cases gk with
    | zero => exact absurd HA.out (by simp [spec_l1All.l0])
    | succ k1 =>
      have H := HA.out
      clear HA
      simp only [spec_l1All.l0] at H
      by_cases c4 : x11_1 < (l0.length : Int)
      · rw [if_pos c4] at H
        have c4b0 := decide_eq_true c4
        clear c4
        by_cases c5 : 0 ≤ x11_1
        · rw [if_pos c5] at H
          have c5b0 := decide_eq_true c5
          clear c5
          by_cases c6 : x11_1 < (l0.length : Int)
          · rw [if_pos c6] at H
            have c6b0 := decide_eq_true c6
            clear c6
            obtain ⟨t636, A7, H⟩ := bs H; (try dsimp only at H)
            by_cases c8 : t636 = true
            · subst c8
              rw [if_pos rfl] at H
              have H' := Aside0.mk H
              clear H
              have p635 : 0 ≤ (x11_1 : Int) := of_decide_eq_true (by first | (with_reducible assumption) | assumption)
              have q635 : x11_1 < (l0.length : Int) := of_decide_eq_true (by first | (with_reducible assumption) | assumption)
              obtain ⟨ad635, e635, hx635_0⟩ := Kd.at_int HR0.out x11_1 p635 q635
              cases e635
              replace p635 := eq_true p635
              replace q635 := eq_true q635
              go_wp2_with (first | (refine gA (some 18) Tryz.func192 #[.int .i64 (rd l0 x11_1), .int .i64 a1, .int .i64 a2] ?_; (with_reducible refine (spec_l1In.calls (rd l0 x11_1) a1 a2 true _ A7.out).mono ?_); rintro e w' ⟨rfl, ⟨nd, rfl⟩⟩; refine ⟨_, rfl, ?_⟩))
              go_roundg k1
              case measure => have := HK1.out; omega
              case rel => exact ⟨(wrap64 (x11_1 + 1)), (by first | rfl | (simp; done) | (simp [*]; done)), H', ⟨by have := HK1.out; omega⟩, by repeat (first | exact Drawn0.refl _ | apply Drawn0.step)⟩
            · replace c8 := Bool.eq_false_iff.mpr c8
              subst c8
              rw [if_neg (show ¬ (false = true) by decide)] at H
              obtain rfl := Option.some.inj H
              have p635 : 0 ≤ (x11_1 : Int) := of_decide_eq_true (by first | (with_reducible assumption) | assumption)
              have q635 : x11_1 < (l0.length : Int) := of_decide_eq_true (by first | (with_reducible assumption) | assumption)
              obtain ⟨ad635, e635, hx635_0⟩ := Kd.at_int HR0.out x11_1 p635 q635
              cases e635
              replace p635 := eq_true p635
              replace q635 := eq_true q635
              go_wp2_with (first | (refine gA (some 18) Tryz.func192 #[.int .i64 (rd l0 x11_1), .int .i64 a1, .int .i64 a2] ?_; (with_reducible refine (spec_l1In.calls (rd l0 x11_1) a1 a2 false _ A7.out).mono ?_); rintro e w' ⟨rfl, ⟨nd, rfl⟩⟩; refine ⟨_, rfl, ?_⟩))
              go_ret
              exact ⟨by first | rfl | (simp; done) | (simp [*]; done), by repeat (first | exact Drawn0.refl _ | apply Drawn0.step)⟩
          · rw [if_neg c6] at H
            exact absurd H (by simp)
        · rw [if_neg c5] at H
          exact absurd H (by simp)
      · rw [if_neg c4] at H
        have c4b0 := decide_eq_false c4
        clear c4
        obtain rfl := Option.some.inj H
        go_wp2
        go_ret
        exact ⟨by first | rfl | (simp; done) | (simp [*]; done), by repeat (first | exact Drawn0.refl _ | apply Drawn0.step)⟩
mutual
def spec_RemaindersOf.j0 : Nat → List Int → Int → Bool → Option (List Int × Bool)
  | 0, _, _, _ => none
  | k + 1, x0, x1, x22 => if x22 = true then (some (([] : List Int), false)) else (if 0 ≤ x1 then (if (x1 : Int).toNat ≤ 35184372088832 then (spec_RemaindersOf.l0 k x1 (List.replicate (x1 : Int).toNat 0) x0 (x0.length : Int) 0) else (none)) else (none))
def spec_RemaindersOf.l0 : Nat → Int → List Int → List Int → Int → Int → Option (List Int × Bool)
  | 0, _, _, _, _, _ => none
  | k + 1, x1, x6, x25, x26, x27 => if x27 < x26 then (if 0 ≤ x27 then (if x27 < (x25.length : Int) then (if x1 = 0 then (none) else (if 0 ≤ (Int.tmod x27 x1) then (if (Int.tmod x27 x1) < (x6.length : Int) then (spec_RemaindersOf.l0 k x1 (x6.set ((Int.tmod x27 x1) : Int).toNat (wrap64 ((rd x6 (Int.tmod x27 x1)) + (rd x25 x27)))) x25 x26 (wrap64 (x27 + 1))) else (none)) else (none))) else (none)) else (none)) else (some (x6, true))
end
def spec_RemaindersOf.f (k : Nat) (l0 : List Int) (a1 : Int) : Option (List Int × Bool) := (spec_l1In.f (l0.length : Int) 1 100).bind fun t637 => (if t637 = true then ((spec_l1All.f k l0 0 1000000).bind fun t638 => (if t638 = true then ((spec_l1In.f a1 1 60).bind fun t639 => (spec_RemaindersOf.j0 k l0 a1 (!t639))) else (spec_RemaindersOf.j0 k l0 a1 true))) else (spec_RemaindersOf.j0 k l0 a1 true))
theorem spec_RemaindersOf.mono_l : ∀ k, (∀ y0 y1 y2, LeO (spec_RemaindersOf.j0 k y0 y1 y2) (spec_RemaindersOf.j0 (k + 1) y0 y1 y2)) ∧ (∀ y0 y1 y2 y3 y4, LeO (spec_RemaindersOf.l0 k y0 y1 y2 y3 y4) (spec_RemaindersOf.l0 (k + 1) y0 y1 y2 y3 y4))
  | 0 => ⟨fun _ _ _ r h => by simp [spec_RemaindersOf.j0] at h, fun _ _ _ _ _ r h => by simp [spec_RemaindersOf.l0] at h⟩
  | k + 1 => by
    obtain ⟨ih0, ih1⟩ := spec_RemaindersOf.mono_l k
    refine ⟨?_, ?_⟩
    all_goals
      intros
      first | unfold spec_RemaindersOf.j0 | unfold spec_RemaindersOf.l0
      repeat' (with_reducible first | apply ih0 | apply ih1 | apply spec_l1All.mono | exact LeO.refl _ | exact LeO.none _ | refine LeO.ite ?_ ?_ | refine LeO.bind ?_ (fun _ => ?_))
theorem spec_RemaindersOf.mono : ∀ a0 a1 k, LeO (spec_RemaindersOf.f k a0 a1) (spec_RemaindersOf.f (k + 1) a0 a1) := by
  intro a0 a1 k
  obtain ⟨ih0, ih1⟩ := spec_RemaindersOf.mono_l k
  unfold spec_RemaindersOf.f
  repeat' (with_reducible first | apply ih0 | apply ih1 | apply spec_l1All.mono | exact LeO.refl _ | exact LeO.none _ | refine LeO.ite ?_ ?_ | refine LeO.bind ?_ (fun _ => ?_))
set_option maxHeartbeats 8000000 in
set_option maxRecDepth 100000 in
theorem spec_RemaindersOf.calls (k : Nat) (A0 : Option Addr) (c0 : Nat) (l0 : List Int) (a1 : Int) (r1 : List Int) (r2 : Bool) (w : World) (hr0 : Kd.C (Kd.int .i64) w A0 l0.length l0) (hc0 : l0.length ≤ c0) (h : spec_RemaindersOf.f k l0 a1 = some (r1, r2)) :
    Calls Tryz.prog 71 #[.slice A0 l0.length c0, .int .i64 a1] w fun e w' => ∃ v0_ : Value, e = .returned (.tuple #[v0_, .bool r2]) ∧ Kd.R (Kd.int .i64) 3 w' w.heap.size (fun _ => True) v0_ r1 ∧ Below w.heap.size w w' := by
  have HR0 := Aside0.mk hr0
  have HC0 := Aside0.mk hc0
  clear hr0 hc0
  have HB := Aside0.mk (Below.refl w.heap.size w)
  have H : ((spec_l1In.f (l0.length : Int) 1 100).bind fun t637 => (if t637 = true then ((spec_l1All.f k l0 0 1000000).bind fun t638 => (if t638 = true then ((spec_l1In.f a1 1 60).bind fun t639 => (spec_RemaindersOf.j0 k l0 a1 (!t639))) else (spec_RemaindersOf.j0 k l0 a1 true))) else (spec_RemaindersOf.j0 k l0 a1 true))) = some (r1, r2) := h
  clear h
  have HC3 := Aside0.mk H
  clear H
  go_enter Tryz.func71, Tryz.ntmps71
  go_upto_region 1 with (fail)
  go_cut [22] (fun v22 wc => ∃ (kq : Nat) (x22_2 : Bool), v22 = .bool x22_2 ∧ Aside0 (spec_RemaindersOf.j0 kq l0 a1 x22_2 = some (r1, r2)) ∧ Aside0 (kq ≤ k) ∧ Aside0 (Below w.heap.size w wc))
  case first =>
    have H := HC3.out
    clear HC3
    obtain ⟨t637, A4, H⟩ := bs H; (try dsimp only at H)
    by_cases c5 : t637 = true
    · subst c5
      rw [if_pos rfl] at H
      obtain ⟨t638, A6, H⟩ := bs H; (try dsimp only at H)
      by_cases c7 : t638 = true
      · subst c7
        rw [if_pos rfl] at H
        obtain ⟨t639, A8, H⟩ := bs H; (try dsimp only at H)
        have H' := Aside0.mk H
        clear H
        go_wp2_with (first | (refine gA (some 11) Tryz.func192 #[.int .i64 (l0.length : Int), .int .i64 1, .int .i64 100] ?_; (with_reducible refine (spec_l1In.calls (l0.length : Int) 1 100 true _ A4.out).mono ?_); rintro e w' ⟨rfl, ⟨nd, rfl⟩⟩; refine ⟨_, rfl, ?_⟩) | (go_at_call 224; (with_reducible refine (spec_l1All.calls k _ _ l0 0 1000000 true _ ?side1 HC0.out A6.out).mono ?_); (case side1 => repeat (first | exact (Kd.C_below HR0.out (uB HB)) | (with_reducible refine Kd.C_alloc ?_ _) | (with_reducible refine Kd.C_drewN ?_ _) | (with_reducible refine Kd.C_drew ?_))); rintro e w' ⟨rfl, ⟨nd, rfl⟩⟩) | (go_at_call 192; (with_reducible refine (spec_l1In.calls a1 1 60 t639 _ A8.out).mono ?_); rintro e w' ⟨rfl, ⟨nd, rfl⟩⟩))
        go_meet
        case rel => exact ⟨_, (!t639), (by first | rfl | (simp; done) | (simp [*]; done)), H', ⟨by first | omega | exact Nat.le_refl _⟩, ⟨uB HB⟩⟩
      · replace c7 := Bool.eq_false_iff.mpr c7
        subst c7
        rw [if_neg (show ¬ (false = true) by decide)] at H
        have H' := Aside0.mk H
        clear H
        go_wp2_with (first | (refine gA (some 11) Tryz.func192 #[.int .i64 (l0.length : Int), .int .i64 1, .int .i64 100] ?_; (with_reducible refine (spec_l1In.calls (l0.length : Int) 1 100 true _ A4.out).mono ?_); rintro e w' ⟨rfl, ⟨nd, rfl⟩⟩; refine ⟨_, rfl, ?_⟩) | (go_at_call 224; (with_reducible refine (spec_l1All.calls k _ _ l0 0 1000000 false _ ?side1 HC0.out A6.out).mono ?_); (case side1 => repeat (first | exact (Kd.C_below HR0.out (uB HB)) | (with_reducible refine Kd.C_alloc ?_ _) | (with_reducible refine Kd.C_drewN ?_ _) | (with_reducible refine Kd.C_drew ?_))); rintro e w' ⟨rfl, ⟨nd, rfl⟩⟩))
        go_meet
        case rel => exact ⟨_, (true), (by first | rfl | (simp; done) | (simp [*]; done)), H', ⟨by first | omega | exact Nat.le_refl _⟩, ⟨uB HB⟩⟩
    · replace c5 := Bool.eq_false_iff.mpr c5
      subst c5
      rw [if_neg (show ¬ (false = true) by decide)] at H
      have H' := Aside0.mk H
      clear H
      go_wp2_with (first | (refine gA (some 11) Tryz.func192 #[.int .i64 (l0.length : Int), .int .i64 1, .int .i64 100] ?_; (with_reducible refine (spec_l1In.calls (l0.length : Int) 1 100 false _ A4.out).mono ?_); rintro e w' ⟨rfl, ⟨nd, rfl⟩⟩; refine ⟨_, rfl, ?_⟩))
      go_meet
      case rel => exact ⟨_, (true), (by first | rfl | (simp; done) | (simp [*]; done)), H', ⟨by first | omega | exact Nat.le_refl _⟩, ⟨uB HB⟩⟩
  case rest =>
    clear HC3
    skip
    obtain ⟨kq, x22_2, rfl, HA, HJ2, HB⟩ := hcut
    cases kq with
    | zero => exact absurd HA.out (by simp [spec_RemaindersOf.j0])
    | succ kj2 =>
      have H := HA.out
      clear HA
      simp only [spec_RemaindersOf.j0] at H
      by_cases c9 : x22_2 = true
      · subst c9
        rw [if_pos rfl] at H
        simp only [Option.some.injEq, Prod.mk.injEq] at H
        obtain ⟨rfl, rfl⟩ := H
        go_wp2
        go_ret2
        exact ⟨_, by first | rfl | (simp [errW_none, errW_some] <;> rfl) | (simp [*, errW_none, errW_some] <;> rfl), by first | exact Kd.R_nil _ _ _ _ _ | exact Kd.N_nil _ _ _ _ _ | exact Kd.V_nil _ _ _ _ _ | exact Kd.Q_nil _ _ _ _ _ | exact Kd.S_nil _ _ _ _ _, uB HB⟩
      · replace c9 := Bool.eq_false_iff.mpr c9
        subst c9
        rw [if_neg (show ¬ (false = true) by decide)] at H
        by_cases c10 : 0 ≤ a1
        · rw [if_pos c10] at H
          have c10b0 := eq_true c10
          have c10b1 := decide_eq_true c10
          clear c10
          by_cases c11 : (a1 : Int).toNat ≤ 35184372088832
          · rw [if_pos c11] at H
            have c11b0 := eq_true c11
            have c11b1 := decide_eq_true c11
            clear c11
            obtain ⟨y640, hy640⟩ : ∃ y_ : List Int, y_ = (List.replicate (a1 : Int).toNat 0) := ⟨_, rfl⟩
            replace H : (spec_RemaindersOf.l0 kj2 a1 y640 l0 (l0.length : Int) 0) = some (r1, r2) := by first | (rw [hy640]; with_reducible exact H) | (have H2_ := (Option.bind_some _ _).symm.trans H; rw [hy640]; with_reducible exact H2_) | (have H2_ := (Option.bind_some _ _).symm.trans H; with_reducible exact H2_) | with_reducible exact H | (rw [hy640]; exact H) | exact H
            have Ny640 := Aside0.mk hy640
            clear hy640
            have H' := Aside0.mk H
            clear H
            go_wp2_with (first | ((with_reducible refine gate_dst (N := 24) rfl ?_); refine Kd.R_make (Kd.int .i64) _ 3 rfl (N := 24) rfl 24 _ _ rfl a1 rfl rfl Tryz.underlying24 (.int .i64 0) 8 info3 rfl (by decide) (by omega) 0 (ok := fun _ => True) (okp := fun _ => True) rfl (fun _ hk => hk) trivial (of_decide_eq_true (by first | (with_reducible assumption) | assumption)) (Nat.le_trans (Nat.mul_le_mul_right _ (of_decide_eq_true (by first | (with_reducible assumption) | assumption) : a1.toNat ≤ 35184372088832)) (by omega)) (Below.refl _ _) (Nat.le_refl _) ?_; intro v641 w12 ho13 hb hg_ hnew_; clear hg_ hnew_; (first | rw [← Ny640.out] at ho13 | (simp only [Int.reduceToNat] at ho13; rw [← Ny640.out] at ho13)); have n0_ := Aside0.mk (Kd.R_lower ho13 (below_size (uB HB))); have n1_ := Aside0.mk (below_step (uB HB) hb); clear HB; have HO642 := n0_; have HB := n1_; clear n0_ n1_; clear hb ho13))
            go_loopg [27] kj2 (fun kq v27 w' => ∃ (x6_2 : List Int) (x27_2 : Int), v27 = .int .i64 x27_2 ∧ Aside0 (spec_RemaindersOf.l0 kq a1 x6_2 l0 (l0.length : Int) x27_2 = some (r1, r2)) ∧ Aside0 (kq ≤ kj2) ∧ Aside0 (Kd.R (Kd.int .i64) 3 w' w.heap.size (fun _ => True) v641 x6_2) ∧ Aside0 (Below w.heap.size w w'))
            case atStart => exact ⟨(y640), (0), (by first | rfl | (simp; done) | (simp [*]; done)), H', ⟨Nat.le_refl _⟩, ⟨uR HO642⟩, ⟨uB HB⟩⟩
            case round =>
              clear H'
              try clear c10b0 c10b1 c11b0 c11b1
              obtain ⟨x6_2, x27_2, rfl, HA, HK2, HO_6, HB⟩ := hrel
              cases gk with
              | zero => exact absurd HA.out (by simp [spec_RemaindersOf.l0])
              | succ k2 =>
                have H := HA.out
                clear HA
                simp only [spec_RemaindersOf.l0] at H
                by_cases c14 : x27_2 < (l0.length : Int)
                · rw [if_pos c14] at H
                  have c14b0 := decide_eq_true c14
                  clear c14
                  by_cases c15 : 0 ≤ x27_2
                  · rw [if_pos c15] at H
                    have c15b0 := decide_eq_true c15
                    clear c15
                    by_cases c16 : x27_2 < (l0.length : Int)
                    · rw [if_pos c16] at H
                      have c16b0 := decide_eq_true c16
                      clear c16
                      by_cases c17 : a1 = 0
                      · rw [if_pos c17] at H
                        exact absurd H (by simp)
                      · rw [if_neg c17] at H
                        have c17b0 : (a1 == 0) = false := beq_eq_false_iff_ne.mpr c17
                        have c17b1 : (a1 != 0) = true := bne_iff_ne.mpr c17
                        obtain ⟨ji18, hji18⟩ : ∃ j_ : Int, (Int.tmod x27_2 a1) = j_ := ⟨_, rfl⟩
                        replace H : (if 0 ≤ (ji18) then (if (ji18) < (x6_2.length : Int) then (spec_RemaindersOf.l0 k2 a1 (x6_2.set ((ji18) : Int).toNat (wrap64 ((rd x6_2 (ji18)) + (rd l0 x27_2)))) l0 (l0.length : Int) (wrap64 (x27_2 + 1))) else (none)) else (none)) = some (r1, r2) := by first | (rw [hji18] at H; exact H) | (simp only [hji18] at H ⊢; exact H)
                        by_cases c19 : 0 ≤ (ji18)
                        · rw [if_pos c19] at H
                          have c19b0 := decide_eq_true c19
                          clear c19
                          by_cases c20 : (ji18) < (x6_2.length : Int)
                          · rw [if_pos c20] at H
                            have c20b0 := decide_eq_true c20
                            clear c20
                            obtain ⟨y645, hy645⟩ : ∃ y_ : List Int, y_ = (x6_2.set ((ji18) : Int).toNat (wrap64 ((rd x6_2 (ji18)) + (rd l0 x27_2)))) := ⟨_, rfl⟩
                            replace H : (spec_RemaindersOf.l0 k2 a1 y645 l0 (l0.length : Int) (wrap64 (x27_2 + 1))) = some (r1, r2) := by first | (rw [hy645]; with_reducible exact H) | (have H2_ := (Option.bind_some _ _).symm.trans H; rw [hy645]; with_reducible exact H2_) | (have H2_ := (Option.bind_some _ _).symm.trans H; with_reducible exact H2_) | with_reducible exact H | (rw [hy645]; exact H) | exact H
                            have Ny645 := Aside0.mk hy645
                            clear hy645
                            have H' := Aside0.mk H
                            clear H
                            have p643 : 0 ≤ (x27_2 : Int) := of_decide_eq_true (by first | (with_reducible assumption) | assumption)
                            have q643 : x27_2 < (l0.length : Int) := of_decide_eq_true (by first | (with_reducible assumption) | assumption)
                            obtain ⟨ad643, e643, hx643_0⟩ := Kd.at_int HR0.out x27_2 p643 q643
                            cases e643
                            replace hx643_0 := (HB.out.cell (World.block_lt_of_cell? w _ hx643_0)).trans hx643_0
                            replace p643 := eq_true p643
                            replace q643 := eq_true q643
                            obtain ⟨Ao22, co22, eo22⟩ := Kd.R_slice HO_6.out
                            subst eo22
                            have p644 : 0 ≤ ((ji18) : Int) := of_decide_eq_true (by first | (with_reducible assumption) | assumption)
                            have q644 : (ji18) < (x6_2.length : Int) := of_decide_eq_true (by first | (with_reducible assumption) | assumption)
                            obtain ⟨ad644, e644, hx644_0⟩ := Kd.at_int (Kd.R_reads' HO_6.out).2.2 (ji18) p644 q644
                            cases e644
                            replace p644 := eq_true p644
                            replace q644 := eq_true q644
                            have p21 : 0 ≤ ((ji18) : Int) := of_decide_eq_true (by first | (with_reducible assumption) | assumption)
                            have q21 : ((ji18) : Int) < ((x6_2.length : Int) : Int) := of_decide_eq_true (by first | (with_reducible assumption) | assumption)
                            obtain ⟨go21, co21, eo21, gb21, gl21, cl21, HG21⟩ := Kd.R_form HO_6.out (by omega)
                            (first | cases eo21 | (injection eo21 with ea_ en_ ec_; (first | subst ea_ | (injection ea_ with ea_; subst ea_)); subst ec_; clear en_))
                            have GB21 := Aside0.mk gb21
                            have GG21 := Aside0.mk HG21
                            clear gb21 gl21 HG21
                            (first | simp only [add_plain] at hx644_0 | skip)
                            obtain ⟨hx21_0, hf21_0⟩ := Kd.R_celln 0 HO_6.out ((ji18) : Int) p21 q21
                            replace p21 := eq_true p21
                            replace q21 := eq_true q21
                            have HP23 := Kd.R_putg HO_6.out ((ji18) : Int) (wrap64 ((rd x6_2 (ji18)) + (rd l0 x27_2)))
                            go_wp2_with (first | ((with_reducible refine gate_store (t := 3) (p := 40) rfl ?_); refine store_event (t := 3) (p := 40) (v := ?vo_w24) (w1 := (wr.setCell ⟨go21, ((ji18) : Int).toNat, none⟩ (.int .i64 (wrap64 ((rd x6_2 (ji18)) + (rd l0 x27_2)))))) ?hg ?ho ?hn ?hr ?_; (case ho => rfl); (case hg => rfl); (case hn => rfl); (case hr => first | (go_simp; done) | (go_simp; rfl)); intro w24 hw; have hg : wr.grownBy w24 (some go21) := (by rw [hw]; exact HP23.2); have hp_ : Kd.R (Kd.int .i64) 3 w24 w.heap.size (fun _ => True) (.slice (some ⟨go21, 0, none⟩) x6_2.length co22) y645 := (by rw [hw, Ny645.out]; exact HP23.1); clear HP23; have n0_ := Aside0.mk (hp_); have n1_ := Aside0.mk ((by rw [hw]; exact below_set (HB.out) GB21.out : Below w.heap.size w w24)); clear HO_6; clear HB; have HO_6 := n0_; have HB := n1_; clear n0_ n1_; clear hg hw hp_))
                            go_roundg k2
                            case measure => have := HJ2.out; have := HK2.out; omega
                            case rel => exact ⟨(y645), (wrap64 (x27_2 + 1)), (by first | rfl | (simp; done) | (simp [*]; done)), H', ⟨by have := HJ2.out; have := HK2.out; omega⟩, ⟨uR HO_6⟩, ⟨uB HB⟩⟩
                          · rw [if_neg c20] at H
                            exact absurd H (by simp)
                        · rw [if_neg c19] at H
                          exact absurd H (by simp)
                    · rw [if_neg c16] at H
                      exact absurd H (by simp)
                  · rw [if_neg c15] at H
                    exact absurd H (by simp)
                · rw [if_neg c14] at H
                  have c14b0 := decide_eq_false c14
                  clear c14
                  simp only [Option.some.injEq, Prod.mk.injEq] at H
                  obtain ⟨rfl, rfl⟩ := H
                  go_wp2
                  go_ret2
                  exact ⟨_, by first | rfl | (simp [errW_none, errW_some] <;> rfl) | (simp [*, errW_none, errW_some] <;> rfl), uR HO_6, uB HB⟩
          · rw [if_neg c11] at H
            exact absurd H (by simp)
        · rw [if_neg c10] at H
          exact absurd H (by simp)
end Go.Proofs.YtkgngggppcmpfaaGreat.L
end
