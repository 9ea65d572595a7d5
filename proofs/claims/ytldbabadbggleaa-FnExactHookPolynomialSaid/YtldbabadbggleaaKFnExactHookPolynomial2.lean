/- Laws about the given program: the law FnExactHookPolynomial answers true for every input that its row lets in; no condition is added to the given statement. Contracts of the Go functions that it reaches, and the plain proof over lists. -/
import Derived.Test.YtldbabadbggleaaWFnExactHookPolynomial0
import Derived.Test.YtldbabadbggleaaKFnExactHookPolynomial0
import Derived.Test.YtldbabadbggleaaKFnExactHookPolynomial1
section
namespace Go.Proofs.Ytldbabadbggleaa.L
open Go.RowKit Go.Proofs.YtldbabadbggleaaW.PrintWords Go.Proofs.YtldbabadbggleaaW.PrintLast Go.Proofs.YtldbabadbggleaaW.PrintMore
attribute [local go_sem] max2_int min2_int max_two min_two max_three min_three max_four min_four
set_option linter.unusedVariables false
set_option linter.unusedSimpArgs false
open Go.Proofs.Ytldbabadbggleaa.X in
theorem slices_DeleteFunc.idx_spec (p : Int → Bool) : ∀ (l : List Int) (i : Nat), (idxFrom p l i = -1 ∧ l.filter (fun x => !p x) = l) ∨ ∃ k, k < l.length ∧ idxFrom p l i = ((i + k : Nat) : Int) ∧ (l.take (k + 1)).filter (fun x => !p x) = l.take k
  | [], i => .inl ⟨rfl, rfl⟩
  | x :: l, i => by
    unfold idxFrom
    by_cases h : p x = true
    · rw [if_pos h]
      exact .inr ⟨0, by simp, by simp, by simp [h]⟩
    · rw [if_neg h]
      have h' : p x = false := by simpa using h
      rcases slices_DeleteFunc.idx_spec p l (i + 1) with ⟨e1, e2⟩ | ⟨k, hk, e1, e2⟩
      · exact .inl ⟨e1, by rw [List.filter_cons, h']; simp [e2]⟩
      · refine .inr ⟨k + 1, by simpa using hk, by rw [e1]; congr 1; omega, ?_⟩
        rw [List.take_succ_cons, List.filter_cons, h', List.take_succ_cons, e2]
        simp
theorem slices_DeleteFunc.below_cells {B : Nat} {a : World} (b : Nat) (hb : B ≤ b) : ∀ (vs : List Value) (o : Nat) {w : World}, Below B a w → Below B a (w.setCells b o vs)
  | [], _, _, h => h
  | v :: r, o, _, h => slices_DeleteFunc.below_cells b hb r (o + 1) (h.setCell (p := ⟨b, o, none⟩) hb v)
theorem slices_DeleteFunc.cleared {g c base e : Nat} {ok : Nat → Prop} (i : Nat) : ∀ (m o : Nat) (w : World) (xs : List Int), (Kd.int .i64).R e w base ok (.slice (some ⟨g, 0, none⟩) xs.length c) xs → i ≤ o →
    ∃ ys : List Int, (Kd.int .i64).R e (w.setCells g o (List.replicate m (.int .i64 0))) base ok (.slice (some ⟨g, 0, none⟩) ys.length c) ys ∧ ys.take i = xs.take i ∧ ys.length = xs.length
  | 0, o, w, xs, h, hi => ⟨xs, h, rfl, rfl⟩
  | m + 1, o, w, xs, h, hi => by
    have h1 := (Kd.R_putn h (o : Int) (0 : Int))
    rw [Int.toNat_natCast] at h1
    have h2 : (Kd.int .i64).R e (w.setCell ⟨g, o, none⟩ (.int .i64 0)) base ok (.slice (some ⟨g, 0, none⟩) (xs.set o 0).length c) (xs.set o 0) := by rw [List.length_set]; exact h1
    obtain ⟨ys, y1, y2, y3⟩ := slices_DeleteFunc.cleared i m (o + 1) _ _ h2 (by omega)
    exact ⟨ys, y1, by rw [y2, List.take_set_of_le hi], by rw [y3, List.length_set]⟩
theorem slices_DeleteFunc.keep {l dk : List Int} {p : Int → Bool} {i j : Nat} (hi : i < j) (hj : j < l.length) (hlen : dk.length = l.length) (h1 : dk.take i = (l.take j).filter (fun x => !p x)) (h2 : dk.drop j = l.drop j) :
    rd dk (j : Int) = l[j] ∧ (p l[j] = true → dk.take i = (l.take (j + 1)).filter (fun x => !p x)) ∧ dk.drop (j + 1) = l.drop (j + 1) ∧
    (p l[j] = false → (dk.set i l[j]).take (i + 1) = (l.take (j + 1)).filter (fun x => !p x)) ∧ (dk.set i l[j]).drop (j + 1) = l.drop (j + 1) := by
  have e0 : dk[j]? = l[j]? := by
    have := congrArg (fun x => x[0]?) h2
    simpa using this
  have e1 : dk.drop (j + 1) = l.drop (j + 1) := by
    have := congrArg (List.drop 1) h2
    rwa [List.drop_drop, List.drop_drop] at this
  refine ⟨?_, fun hp => ?_, e1, fun hp => ?_, ?_⟩
  · rw [List.getElem?_eq_getElem hj] at e0
    simp [rd, List.getD_eq_getElem?_getD, e0]
  · rw [List.take_succ_eq_append_getElem hj, List.filter_append, h1]
    simp [hp]
  · rw [List.take_succ_eq_append_getElem hj, List.filter_append, ← h1, List.take_set, List.take_succ_eq_append_getElem (show i < dk.length by omega)]
    have e2 : (dk.take i).length = i := by rw [List.length_take]; omega
    rw [List.set_append_right _ _ (by omega), e2, Nat.sub_self]
    simp [hp]
  · rw [List.drop_set_of_lt (by omega), e1]
open Go.Proofs.Ytldbabadbggleaa.X in
set_option maxHeartbeats 1600000 in
set_option maxRecDepth 100000 in
theorem slices_DeleteFunc.calls (v : Value) (l : List Int) (gF : Nat) (lbF : Array Value) (p : Int → Bool) (w0 w : World) (eg : ∀ args w, (callFunc gF args).run Try.prog w = .ok (.enter gF args) w) (hb : Below w0.heap.size w0 w)
    (hr : Kd.R (Kd.int .i64) 3 w w0.heap.size (fun _ => True) v l) (hl : l.length ≤ 9223372036854775806) (hp : ∀ x, x ∈ l → Fv Try.prog gF lbF #[.int .i64 x] (.bool (p x)) w0) :
    Calls Try.prog 87 #[v, .func (.func gF) #[] lbF] w fun e w' => ∃ v0_ : Value, e = .returned v0_ ∧ Kd.R (Kd.int .i64) 3 w' w0.heap.size (fun _ => True) v0_ (l.filter fun x => !p x) ∧ Below w0.heap.size w0 w' := by
  obtain ⟨A0, c0, rfl, hlc, hC⟩ := Kd.R_reads hr
  have EG := Aside0.mk eg
  have HR := Aside0.mk hr
  have HP := Aside0.mk hp
  have HB0 := Aside0.mk hb
  have HCC := Aside0.mk hC
  have HL := Aside0.mk hl
  have HCap := Aside0.mk hlc
  clear hr hp hb hC hl hlc
  go_enter Try.func87, Try.ntmps87
  go_wp2_with fail
  refine (slices_IndexFunc.calls A0 c0 l gF lbF p _ EG.out HCC.out HL.out (fun x hx => (HP.out x hx).later HB0.out)).mono ?_
  rintro e w1 ⟨rfl, hb⟩
  have B1 := Aside0.mk (below_to HB0.out hb)
  have R1 := Aside0.mk (Kd.R_below HR.out hb)
  clear hb HR HCC HB0
  have hs := slices_DeleteFunc.idx_spec p l 0
  have hs : (idxOf p l = -1 ∧ l.filter (fun x => !p x) = l) ∨ ∃ k, k < l.length ∧ idxOf p l = (k : Int) ∧ (l.take (k + 1)).filter (fun x => !p x) = l.take k := by
    rcases hs with h | ⟨k, h1, h2, h3⟩
    · exact .inl h
    · exact .inr ⟨k, h1, by rw [Nat.zero_add] at h2; exact h2, h3⟩
  rcases hs with ⟨e1, e2⟩ | ⟨k0, hk0, e1, e2⟩
  · rw [e1]
    have E2 := Aside0.mk e2
    clear e1 e2
    go_wp2
    go_ret
    exact ⟨_, rfl, by rw [E2.out]; exact R1.out, B1.out⟩
  · rw [e1]
    have E2 := Aside0.mk e2
    have hne : ((k0 : Int) == -1) = false := beq_eq_false_iff_ne.2 (by omega)
    obtain ⟨k1, hk1⟩ : ∃ k1, k1 = k0 + 1 := ⟨_, rfl⟩
    have e3 : wrap64 ((k0 : Int) + 1) = (k1 : Int) := by have := HL.out; unfold wrap64; omega
    rw [← hk1] at E2
    have HK1 := Aside0.mk hk1
    clear hk1
    obtain ⟨g, c1, eo, gb, gl, cl, hg⟩ := Kd.R_form R1.out (by omega)
    cases eo
    have GB := Aside0.mk gb
    clear e1 e2 gb gl hg
    go_wp2
    (try simp only [e3])
    clear e3 hne
    go_loopw [5, 6] (fun v5 v6 wr => ∃ (i j : Nat) (dk : List Int), v5 = .int .i64 i ∧ v6 = .int .i64 j ∧ i < j ∧ j ≤ l.length ∧ Aside0 (dk.length = l.length ∧ dk.take i = (l.take j).filter (fun x => !p x) ∧ dk.drop j = l.drop j) ∧ Aside0 (Kd.R (Kd.int .i64) 3 wr w0.heap.size (fun _ => True) (.slice (some ⟨g, 0, none⟩) l.length c0) dk) ∧ Aside0 (Below w0.heap.size w0 wr)) (fun _ v6 _ => l.length - (intOf v6).toNat)
    case atStart => exact ⟨k0, k1, l, rfl, by first | rfl | go_num, by have := HK1.out; omega, by have := HK1.out; omega, ⟨rfl, E2.out.symm, rfl⟩, R1, B1⟩
    case round =>
      obtain ⟨i, j, dk, rfl, rfl, hij, hjl, HI, HR, HB⟩ := hrel
      by_cases hlt : j < l.length
      · obtain ⟨k1, k2, k3, k4, k5⟩ := slices_DeleteFunc.keep hij hlt HI.out.1 HI.out.2.1 HI.out.2.2
        obtain ⟨hx, _⟩ := Kd.R_celln (0 : Int) HR.out (j : Int) (by omega) (by omega)
        have hx : wr.cell? ⟨g, j, none⟩ = some (.int .i64 l[j]) := by rw [Int.toNat_natCast] at hx; rw [hx, ← k1]; rfl
        have e2 : wrap64 ((j : Int) + 1) = ((j + 1 : Nat) : Int) := by have := HL.out; unfold wrap64; omega
        have e3 : wrap64 ((i : Int) + 1) = ((i + 1 : Nat) : Int) := by have := HL.out; unfold wrap64; omega
        have HF := Aside0.mk (HP.out _ (List.getElem_mem hlt))
        have K2 := Aside0.mk k2
        have K3 := Aside0.mk k3
        have K4 := Aside0.mk k4
        have K5 := Aside0.mk k5
        clear k1 k2 k3 k4 k5
        obtain ⟨u, hu⟩ : ∃ u, u = l[j] := ⟨_, rfl⟩
        rw [← hu] at hx HF K2 K4 K5
        clear hu
        cases hq : p u with
        | true =>
          rw [hq] at HF
          have HQ := Aside0.mk hq
          clear hq
          go_wp2_with (go_at_fn gF; (with_reducible refine (Fv.calls HF.out HB.out).mono ?_); rintro e w2 ⟨rfl, hb⟩)
          go_roundw
          case rel => exact ⟨i, j + 1, dk, rfl, by first | rfl | go_num, by omega, by omega, ⟨HI.out.1, K2.out HQ.out, K3.out⟩, ⟨Kd.R_below HR.out hb⟩, ⟨below_to HB.out hb⟩⟩
          case measure => (try simp only [e2]); exact (Nat.sub_lt_sub_left (by omega) (Nat.lt_succ_self j) : l.length - (j + 1) < l.length - j)
        | false =>
          rw [hq] at HF
          have HQ := Aside0.mk hq
          clear hq
          have hi1 : (i : Int) < (l.length : Int) := by omega
          have hi0 : 0 ≤ (i : Int) := by omega
          go_wp2_with (go_at_fn gF; (with_reducible refine (Fv.calls HF.out HB.out).mono ?_); rintro e w2 ⟨rfl, hb⟩; have R2 := Aside0.mk (Kd.R_below HR.out hb); have B2 := Aside0.mk (below_to HB.out hb); obtain ⟨hy, hz⟩ := Kd.R_celln (0 : Int) R2.out (i : Int) (by omega) (by omega); rw [Int.toNat_natCast] at hy hz; clear hb)
          go_roundw
          case rel =>
            have P2 := Kd.R_putg R2.out (i : Int) u
            rw [Int.toNat_natCast] at P2
            exact ⟨i + 1, j + 1, dk.set i u, by first | rfl | go_num, by first | rfl | go_num, by omega, by omega, ⟨by rw [List.length_set]; exact HI.out.1, K4.out HQ.out, K5.out⟩, ⟨P2.1⟩, ⟨below_set B2.out GB.out⟩⟩
          case measure => (try simp only [e2]); exact (Nat.sub_lt_sub_left (by omega) (Nat.lt_succ_self j) : l.length - (j + 1) < l.length - j)
      · have hj : j = l.length := by omega
        subst hj
        obtain ⟨h1, h2, h3⟩ := HI.out
        rw [List.take_of_length_le (Nat.le_refl _)] at h2
        have hin : i ≤ dk.length := by omega
        obtain ⟨ys, y1, y2, y3⟩ := slices_DeleteFunc.cleared (g := g) (c := c0) i (l.length - i) i wr dk (by rw [h1]; exact HR.out) (Nat.le_refl _)
        have Y1 := Aside0.mk (Kd.R_take y1 (show i ≤ ys.length by omega))
        have Y2 := Aside0.mk (show (l.filter fun x => !p x) = ys.take i by rw [y2, h2])
        have Y3 := Aside0.mk (slices_DeleteFunc.below_cells g GB.out (List.replicate (l.length - i) (.int .i64 0)) i HB.out)
        have hcl : ∀ ty, (Builtin.clear_ #[22] ty #[.slice (some ⟨g, i, none⟩) (l.length - i) (c0 - i)]).run Try.prog wr = .ok (.tuple #[]) (wr.setCells g i (List.replicate (l.length - i) (.int .i64 0))) :=
          fun ty => Lib.run_clear_slice wr 22 3 ty (.int .i64 0) Try.underlying22 (fun w => by kernel_rfl) rfl rfl g i _ _ (by omega)
            (fun t ht => by obtain ⟨hx, _⟩ := Kd.R_celln (0 : Int) HR.out ((i + t : Nat) : Int) (by omega) (by omega); rw [Int.toNat_natCast] at hx; rw [hx]; rfl)
            (fun t ht => by obtain ⟨_, hx⟩ := Kd.R_celln (0 : Int) HR.out ((i + t : Nat) : Int) (by omega) (by omega); rw [Int.toNat_natCast] at hx; exact hx)
        have q1 : (i : Int) < (l.length : Int) := by omega
        have q2 : (i : Int) ≤ (l.length : Int) := by omega
        have q3 : (l.length : Int) ≤ (c0 : Int) := by have := HCap.out; omega
        have q4 : (i : Int) ≤ (c0 : Int) := by omega
        clear y1 y2 y3 h1 h2 h3
        go_wp2
        go_ret
        exact ⟨_, rfl, by rw [Y2.out]; exact Y1.out, Y3.out⟩
def impl_Poset_next.p (l0 : List Int) (s x : Int) : Bool := Go.bits .andNot .i64 (rd l0 x) s != 0
def impl_Poset_next.ok (l0 js : List Int) : Bool := js.all fun x => decide (0 ≤ x) && decide (x < (l0.length : Int))
def impl_Poset_next.f (k : Nat) (l0 : List Int) (s : Int) : Option (List Int) := (impl_Poset_all.f l0).bind fun t => (impl_items.f k (Go.bits .andNot .i64 t s)).bind fun js => if js.length ≤ 9223372036854775806 ∧ impl_Poset_next.ok l0 js = true then some (js.filter fun x => !impl_Poset_next.p l0 s x) else none
theorem impl_Poset_next.mono : ∀ a0 a1 k, LeO (impl_Poset_next.f k a0 a1) (impl_Poset_next.f (k + 1) a0 a1) := fun l0 s k => LeO.bind (LeO.refl _) fun t => LeO.bind (impl_items.mono _ _) fun js => LeO.refl _
open Go.Proofs.Ytldbabadbggleaa.X in
set_option maxHeartbeats 800000 in
set_option maxRecDepth 100000 in
theorem impl_Poset_next.lit (A0 : Option Addr) (c0 : Nat) (l0 : List Int) (s x : Int) (B1 B2 : Nat) (w : World) (hr0 : Kd.C (Kd.int .i64) w A0 l0.length l0)
    (q1 : w.cell? ⟨B1, 0, none⟩ = some (.slice A0 l0.length c0)) (q2 : w.cell? ⟨B2, 0, none⟩ = some (.int .i64 s)) (h0 : 0 ≤ x) (h1 : x < (l0.length : Int)) :
    Fv Try.prog 88 #[.pointer (some ⟨B1, 0, none⟩), .pointer (some ⟨B2, 0, none⟩)] #[.int .i64 x] (.bool (impl_Poset_next.p l0 s x)) w := by
  intro W hb
  have p1 := pw_cell_below hb q1
  have p2 := pw_cell_below hb q2
  obtain ⟨ad, e1, hx⟩ := Kd.at_int (Kd.C_below hr0 hb) x h0 h1
  cases e1
  clear hr0 q1 q2 hb
  have hu := Try.underlying29
  unfold impl_Poset_next.p
  by_cases hq : Go.bits .andNot .i64 (rd l0 x) s = 0
  · have hq1 : decide (Go.bits .andNot .i64 (rd l0 x) s = 0) = true := decide_eq_true hq
    have hq2 : (Go.bits .andNot .i64 (rd l0 x) s == 0) = true := beq_iff_eq.mpr hq
    have hq3 : (Go.bits .andNot .i64 (rd l0 x) s != 0) = false := by rw [bne, hq2]; rfl
    have HQ := Aside0.mk hq3
    clear hq
    go_enter Try.func88, Try.ntmps88
    go_wp2_with fail
    go_region_law (fail)
    all_goals
      go_wp2
      go_ret
      exact ⟨by first | (rw [HQ.out]; rfl) | rfl, by first | exact Below.refl _ _ | exact pw_below_drewN (Below.refl _ _) _ | exact below_drew (Below.refl _ _)⟩
  · have hq1 : decide (Go.bits .andNot .i64 (rd l0 x) s = 0) = false := decide_eq_false hq
    have hq2 : (Go.bits .andNot .i64 (rd l0 x) s == 0) = false := beq_eq_false_iff_ne.mpr hq
    have hq3 : (Go.bits .andNot .i64 (rd l0 x) s != 0) = true := by rw [bne, hq2]; rfl
    have HQ := Aside0.mk hq3
    clear hq
    go_enter Try.func88, Try.ntmps88
    go_wp2_with fail
    go_region_law (fail)
    all_goals
      go_wp2
      go_ret
      exact ⟨by first | (rw [HQ.out]; rfl) | rfl, by first | exact Below.refl _ _ | exact pw_below_drewN (Below.refl _ _) _ | exact below_drew (Below.refl _ _)⟩
open Go.Proofs.Ytldbabadbggleaa.X in
set_option maxHeartbeats 1600000 in
set_option maxRecDepth 100000 in
theorem impl_Poset_next.calls (k : Nat) (A0_0 : Option Addr) (c0_0 : Nat) (l0_0 : List Int) (a1 : Int) (r : List Int) (w : World) (hr0_0 : Kd.C (Kd.int .i64) w A0_0 l0_0.length l0_0) (hc0_0 : l0_0.length ≤ c0_0) (h : impl_Poset_next.f k l0_0 a1 = some r) :
    Calls Try.prog 74 #[.agg #[.slice A0_0 l0_0.length c0_0], .int .i64 a1] w fun e w' => ∃ v0_ : Value, e = .returned v0_ ∧ Kd.R (Kd.int .i64) 3 w' w.heap.size (fun _ => True) v0_ r ∧ Below w.heap.size w w' := by
  have HR := Aside0.mk hr0_0
  have HC := Aside0.mk hc0_0
  clear hr0_0 hc0_0
  unfold impl_Poset_next.f at h
  obtain ⟨t, ht, h⟩ := Option.bind_eq_some_iff.mp h
  obtain ⟨js, hjs, h⟩ := Option.bind_eq_some_iff.mp h
  split at h
  · rename_i hc
    have HE := Aside0.mk (Option.some.inj h)
    have HT := Aside0.mk ht
    have HJ := Aside0.mk hjs
    have HO := Aside0.mk hc
    clear h ht hjs hc
    have hu := Try.underlying29
    go_enter Try.func74, Try.ntmps74
    have GR := Aside0.mk (fun x (hx : x ∈ js) => by have h := (List.all_eq_true.mp HO.out.2) x hx; simp only [Bool.and_eq_true, decide_eq_true_eq] at h; exact h : ∀ x ∈ js, 0 ≤ x ∧ x < (l0_0.length : Int))
    go_wp2_with fail
    go_region_law (first
      | (rw [if_pos (by rfl)]; go_simp; go_at_call 73; refine (impl_Poset_all.calls _ _ l0_0 t _ (Kd.C_below HR.out (below_drew1 (below_alloc (below_alloc (Below.refl _ _) _) _))) HC.out HT.out).mono ?_; rintro e w1 ⟨rfl, hb⟩; have z1 : w1.cell? ⟨w.heap.size, 0, none⟩ = some (.slice A0_0 l0_0.length c0_0) := pw_cell_below hb (by simp); have z2 : w1.cell? ⟨w.heap.size + 1, 0, none⟩ = some (.int .i64 a1) := pw_cell_below hb (by simp); have B1 := Aside0.mk (below_to (below_drew1 (below_alloc (below_alloc (Below.refl w.heap.size w) _) _)) hb); clear hb; dsimp only)
      | (rw [if_pos (by rfl)]; go_simp; go_at_call 54; refine (impl_items.calls k _ js _ HJ.out).mono ?_; rintro e w2 ⟨vJ, rfl, hR, hb⟩; have R2 := Aside0.mk hR; have B2 := Aside0.mk hb; clear hR hb; dsimp only)
      | (rw [if_pos (by rfl)]; go_simp; go_at_call 87; refine (slices_DeleteFunc.calls vJ js 88 #[.pointer (some ⟨w.heap.size, 0, none⟩), .pointer (some ⟨w.heap.size + 1, 0, none⟩)] (impl_Poset_next.p l0_0 a1) w1 _ (enters_ Try.func88 (by kernel_rfl) rfl) B2.out R2.out HO.out.1 (fun x hx => impl_Poset_next.lit A0_0 c0_0 l0_0 a1 x _ _ w1 (Kd.C_below HR.out B1.out) z1 z2 (GR.out x hx).1 (GR.out x hx).2)).mono ?_; rintro e w3 ⟨v3, rfl, hR, hb⟩; have R3 := Aside0.mk (Kd.R_lower hR B1.out.size); have B3 := Aside0.mk (below_to B1.out hb); clear hR hb; dsimp only))
    all_goals
      go_wp2
      go_ret
      exact ⟨_, rfl, by rw [← HE.out]; exact R3.out, B3.out⟩
  · cases h
def impl_few.loop (put : Int → List Int → List (List Int) → Option (List (List Int))) (s : Int) (w : List Int) : List Int → List (List Int) → Option (List (List Int))
  | [], O => some O
  | e :: js, O => if 0 ≤ e ∧ w.length < 17592186044416 then (put (Go.bits .or .i64 s (shl .i64 1 e)) (w ++ [e]) O).bind fun O' => impl_few.loop put s w js O' else none
def impl_few.put (k : Nat) (l0 : List Int) (t : Int) : Nat → Int → List Int → List (List Int) → Option (List (List Int))
  | 0, s, w, O => if s = t then (if w.length < 17592186044416 ∧ O.length < 5864062014805 then some (O ++ [w]) else none) else none
  | d + 1, s, w, O => if s = t then (if w.length < 17592186044416 ∧ O.length < 5864062014805 then some (O ++ [w]) else none) else (impl_Poset_next.f k l0 s).bind fun js => if js.length ≤ 9223372036854775806 then impl_few.loop (impl_few.put k l0 t d) s w js O else none
def impl_few.f (k : Nat) (l0 : List Int) : Option (List (List Int) × Bool) := (impl_IsPoset.f k l0).bind fun b => if b = true then (impl_Poset_ways.f k l0).bind fun ws => if 0 < ws.length then (if rd ws 0 > 500 then some ([], false) else (impl_Poset_all.f l0).bind fun t => (impl_few.put k l0 t l0.length 0 [] []).bind fun O => some (O, true)) else none else some ([], false)
theorem impl_few.loop_mono {p q : Int → List Int → List (List Int) → Option (List (List Int))} (h : ∀ s w O, LeO (p s w O) (q s w O)) (s : Int) (w : List Int) : ∀ js O, LeO (impl_few.loop p s w js O) (impl_few.loop q s w js O)
  | [], _ => LeO.refl _
  | e :: js, O => by
    rw [impl_few.loop, impl_few.loop]
    exact LeO.ite (LeO.bind (h _ _ _) fun t => impl_few.loop_mono h s w js _) (LeO.refl _)
theorem impl_few.put_mono (k : Nat) (l0 : List Int) (t : Int) : ∀ d s w O, LeO (impl_few.put k l0 t d s w O) (impl_few.put (k + 1) l0 t d s w O)
  | 0, _, _, _ => LeO.refl _
  | d + 1, s, w, O => by
    rw [impl_few.put, impl_few.put]
    exact LeO.ite (LeO.refl _) (LeO.bind (impl_Poset_next.mono _ _ _) fun js => LeO.ite (impl_few.loop_mono (fun s w O => impl_few.put_mono k l0 t d s w O) _ _ _ _) (LeO.refl _))
theorem impl_few.mono : ∀ a0 k, LeO (impl_few.f k a0) (impl_few.f (k + 1) a0) := by
  intro l0 k
  unfold impl_few.f
  exact LeO.bind (impl_IsPoset.mono _ _) fun b => LeO.ite (LeO.bind (impl_Poset_ways.mono _ _) fun ws => LeO.ite (LeO.ite (LeO.refl _) (LeO.bind (LeO.refl _) fun t => LeO.bind (impl_few.put_mono _ _ _ _ _ _ _) fun O => LeO.refl _)) (LeO.refl _)) (LeO.refl _)
def impl_few.okX (Bp Bo Bw Bq : Nat) (k : Nat) : Prop := k ≠ Bp ∧ k ≠ Bo ∧ k ≠ Bw ∧ k ≠ Bq
structure impl_few.Inv (w0 W : World) (A0 : Option Addr) (n c0 : Nat) (Bp Bo Bw Bq : Nat) (K : Nat → Prop) (W1 : World) (wl : List Int) (vW : Value) (O : List (List Int)) (vO : Value) : Prop where
  below : Below w0.heap.size w0 W
  bp : W.heap[Bp]? = some (.cells #[.slice A0 n c0] 29 (0, 0))
  bo : W.heap[Bo]? = some (.cells #[vO] 26 (0, 0))
  bw : W.heap[Bw]? = some (.cells #[vW] 22 (0, 0))
  bq : W.heap[Bq]? = some (.cells #[.func (.func 72) #[] #[.pointer (some ⟨Bp, 0, none⟩), .pointer (some ⟨Bo, 0, none⟩), .pointer (some ⟨Bw, 0, none⟩), .pointer (some ⟨Bq, 0, none⟩)]] 61 (0, 0))
  so : Kd.S (Kd.slice 3 (Kd.int .i64)) 22 W w0.heap.size (fun k => impl_few.okX Bp Bo Bw Bq k ∧ some k ≠ vW.ownBlock) vO O
  rw : Kd.R (Kd.int .i64) 3 W w0.heap.size (fun k => impl_few.okX Bp Bo Bw Bq k ∧ some k ≠ vO.ownBlock) vW wl
  go : w0.heap.size ≤ Bo
  gw : w0.heap.size ≤ Bw
  ks : W1.heap.size ≤ W.heap.size
  kp : ∀ b, K b → W.heap[b]? = W1.heap[b]? ∧ b < W1.heap.size ∧ b ≠ Bo ∧ b ≠ Bw ∧ some b ≠ vO.ownBlock ∧ some b ≠ vW.ownBlock
theorem impl_few.cell_same {w w' : World} {a : Addr} (h : w.heap[a.block]? = w'.heap[a.block]?) : w.cell? a = w'.cell? a := by unfold World.cell?; rw [h]
theorem impl_few.ssz (w : World) (a : Addr) (v : Value) : (w.setCell a v).heap.size = w.heap.size := by simp [World.setCell]
open Go.Proofs.Ytldbabadbggleaa.X in
theorem impl_few.Inv.step {w0 W W2 W1 : World} {A0 : Option Addr} {n c0 : Nat} {Bp Bo Bw Bq : Nat} {K : Nat → Prop} {wl : List Int} {vW : Value} {O : List (List Int)} {vO : Value} (h : impl_few.Inv w0 W A0 n c0 Bp Bo Bw Bq K W1 wl vW O vO) (hb : Below W.heap.size W W2) : impl_few.Inv w0 W2 A0 n c0 Bp Bo Bw Bq K W1 wl vW O vO :=
  ⟨below_to h.below hb, blk_below h.bp hb, blk_below h.bo hb, blk_below h.bw hb, blk_below h.bq hb, Kd.S_below h.so hb, Kd.R_below h.rw hb, h.go, h.gw, Nat.le_trans h.ks hb.size, fun b hk => by
    obtain ⟨h1, h2, h3⟩ := h.kp b hk
    exact ⟨(hb.block b (Nat.lt_of_lt_of_le h2 h.ks)).trans h1, h2, h3⟩⟩
theorem impl_few.Inv.rebase {w0 W W1 : World} {A0 : Option Addr} {n c0 : Nat} {Bp Bo Bw Bq : Nat} {K : Nat → Prop} {wl : List Int} {vW : Value} {O : List (List Int)} {vO : Value} (h : impl_few.Inv w0 W A0 n c0 Bp Bo Bw Bq K W1 wl vW O vO) : impl_few.Inv w0 W A0 n c0 Bp Bo Bw Bq K W wl vW O vO :=
  have hk2 : ∀ b, K b → W.heap[b]? = W.heap[b]? ∧ b < W.heap.size ∧ b ≠ Bo ∧ b ≠ Bw ∧ some b ≠ vO.ownBlock ∧ some b ≠ vW.ownBlock := fun b hk => ⟨rfl, Nat.lt_of_lt_of_le (h.kp b hk).2.1 h.ks, (h.kp b hk).2.2⟩
  { h with ks := Nat.le_refl _, kp := hk2 }
theorem impl_few.Inv.back {w0 W W1 W2 : World} {A0 : Option Addr} {n c0 : Nat} {Bp Bo Bw Bq : Nat} {K K2 : Nat → Prop} {wl wl2 : List Int} {vW vW2 : Value} {O O2 : List (List Int)} {vO vO2 : Value} (h : impl_few.Inv w0 W A0 n c0 Bp Bo Bw Bq K2 W2 wl vW O vO) (h2 : impl_few.Inv w0 W2 A0 n c0 Bp Bo Bw Bq K W1 wl2 vW2 O2 vO2) (hK : ∀ b, K b → K2 b) : impl_few.Inv w0 W A0 n c0 Bp Bo Bw Bq K W1 wl vW O vO :=
  have hk2 : ∀ b, K b → W.heap[b]? = W1.heap[b]? ∧ b < W1.heap.size ∧ b ≠ Bo ∧ b ≠ Bw ∧ some b ≠ vO.ownBlock ∧ some b ≠ vW.ownBlock := fun b hk => ⟨(h.kp b (hK b hk)).1.trans (h2.kp b hk).1, (h2.kp b hk).2.1, (h.kp b (hK b hk)).2.2⟩
  { h with ks := Nat.le_trans h2.ks h.ks, kp := hk2 }
open Go.Proofs.Ytldbabadbggleaa.X in
theorem impl_few.Inv.push {w0 w1 w2 w3 W1 : World} {A0 : Option Addr} {n c0 : Nat} {Bp Bo Bw Bq : Nat} {K : Nat → Prop} {wl : List Int} {vW : Value} {O : List (List Int)} {Ao A3 : Option Addr} {co c3 : Nat} (h : impl_few.Inv w0 w1 A0 n c0 Bp Bo Bw Bq K W1 wl vW O (.slice Ao O.length co)) (hB : Below w1.heap.size w1 w2)
    (ho : Kd.S (Kd.slice 3 (Kd.int .i64)) 22 w3 w0.heap.size (fun k => impl_few.okX Bp Bo Bw Bq k ∧ some k ≠ vW.ownBlock) (.slice A3 (O ++ [wl]).length c3) (O ++ [wl])) (hb : Below w0.heap.size w0 w3) (hg : w2.grownBy w3 (Value.slice Ao O.length co).ownBlock)
    (hat : (Value.slice A3 (O ++ [wl]).length c3).ownBlock = (Value.slice Ao O.length co).ownBlock ∨ ∃ b, (Value.slice A3 (O ++ [wl]).length c3).ownBlock = some b ∧ w2.heap.size ≤ b) :
    impl_few.Inv w0 (w3.setCell ⟨Bo, 0, none⟩ (.slice A3 (O.length + 1) c3)) A0 n c0 Bp Bo Bw Bq K W1 wl vW (O ++ [wl]) (.slice A3 (O.length + 1) c3) := by
  have e : (O ++ [wl]).length = O.length + 1 := by simp
  rw [e] at ho hat
  have hi := h.step hB
  refine ⟨below_set hb h.go, ?_, ?_, ?_, ?_, ?_, ?_, h.go, h.gw, ?_, fun b hk => ?_⟩
  · exact blk_far (blk_grown hi.bp hg (Kd.S_away h.so fun _ hk => hk.1.1)) (show Bp ≠ Bo from blk_ne h.bp h.bo (by decide)) _
  · exact blk_put (blk_grown hi.bo hg (Kd.S_away h.so fun _ hk => hk.1.2.1)) 0 _ rfl
  · exact blk_far (blk_grown hi.bw hg (Kd.S_away h.so fun _ hk => hk.1.2.2.1)) (show Bw ≠ Bo from blk_ne h.bw h.bo (by decide)) _
  · exact blk_far (blk_grown hi.bq hg (Kd.S_away h.so fun _ hk => hk.1.2.2.2)) (show Bq ≠ Bo from blk_ne h.bq h.bo (by decide)) _
  · exact Kd.S_far ho (fun k hk => hk.1.2.1) _
  · exact Kd.R_far (Kd.R_after (ok := impl_few.okX Bp Bo Bw Bq) hi.rw hg hat) (fun k hk => hk.1.2.1) _
  · rw [impl_few.ssz]; exact Nat.le_trans hi.ks hg.size
  · obtain ⟨h1, h2, h3, h4, h5, h6⟩ := hi.kp b hk
    have hlt : b < w2.heap.size := Nat.lt_of_lt_of_le h2 hi.ks
    refine ⟨(Below.heap_setCell w3 _ _ b h3).trans ((hg.block b hlt h5).trans h1), h2, h3, h4, ?_, h6⟩
    intro q
    rcases hat with q2 | ⟨b2, q2, q3⟩
    · exact h5 (q.trans q2)
    · have := Option.some.inj (q.trans q2); omega
open Go.Proofs.Ytldbabadbggleaa.X in
theorem impl_few.Inv.app {w0 w1 w2 w3 W1 : World} {A0 : Option Addr} {n c0 : Nat} {Bp Bo Bw Bq : Nat} {K : Nat → Prop} {wl : List Int} {vW v3 : Value} {O : List (List Int)} {vO : Value} {x : Int} (h : impl_few.Inv w0 w1 A0 n c0 Bp Bo Bw Bq K W1 wl vW O vO) (hB : Below w1.heap.size w1 w2)
    (ho : Kd.R (Kd.int .i64) 3 w3 w0.heap.size (fun k => impl_few.okX Bp Bo Bw Bq k ∧ some k ≠ vO.ownBlock) v3 (wl ++ [x])) (hb : Below w0.heap.size w0 w3) (hg : w2.grownBy w3 vW.ownBlock)
    (hat : v3.ownBlock = vW.ownBlock ∨ ∃ b, v3.ownBlock = some b ∧ w2.heap.size ≤ b) :
    impl_few.Inv w0 (w3.setCell ⟨Bw, 0, none⟩ v3) A0 n c0 Bp Bo Bw Bq K W1 (wl ++ [x]) v3 O vO := by
  have hi := h.step hB
  have aw : ∀ {B : Nat}, (∀ k, impl_few.okX Bp Bo Bw Bq k → k ≠ B) → some B ≠ vW.ownBlock := fun hk e => hk _ (h.rw.1 _ e.symm).1 rfl
  refine ⟨below_set hb h.gw, ?_, ?_, ?_, ?_, ?_, ?_, h.go, h.gw, ?_, fun b hk => ?_⟩
  · exact blk_far (blk_grown hi.bp hg (aw fun _ hk => hk.1)) (show Bp ≠ Bw from blk_ne h.bp h.bw (by decide)) _
  · exact blk_far (blk_grown hi.bo hg (aw fun _ hk => hk.2.1)) (show Bo ≠ Bw from blk_ne h.bo h.bw (by decide)) _
  · exact blk_put (blk_grown hi.bw hg (aw fun _ hk => hk.2.2.1)) 0 _ rfl
  · exact blk_far (blk_grown hi.bq hg (aw fun _ hk => hk.2.2.2)) (show Bq ≠ Bw from blk_ne h.bq h.bw (by decide)) _
  · exact Kd.S_far (Kd.S_after (ok := impl_few.okX Bp Bo Bw Bq) hi.so hg hat) (fun k hk => hk.1.2.2.1) _
  · exact Kd.R_far ho (fun k hk => hk.1.2.2.1) _
  · rw [impl_few.ssz]; exact Nat.le_trans hi.ks hg.size
  · obtain ⟨h1, h2, h3, h4, h5, h6⟩ := hi.kp b hk
    have hlt : b < w2.heap.size := Nat.lt_of_lt_of_le h2 hi.ks
    refine ⟨(Below.heap_setCell w3 _ _ b h4).trans ((hg.block b hlt h6).trans h1), h2, h3, h4, h5, ?_⟩
    intro q
    rcases hat with q2 | ⟨b2, q2, q3⟩
    · exact h6 (q.trans q2)
    · have := Option.some.inj (q.trans q2); omega
open Go.Proofs.Ytldbabadbggleaa.X in
theorem impl_few.Inv.cut {w0 W W1 : World} {A0 : Option Addr} {n c0 : Nat} {Bp Bo Bw Bq : Nat} {K : Nat → Prop} {wl : List Int} {x : Int} {A : Option Addr} {c : Nat} {O : List (List Int)} {vO : Value} (h : impl_few.Inv w0 W A0 n c0 Bp Bo Bw Bq K W1 (wl ++ [x]) (.slice A (wl ++ [x]).length c) O vO) :
    impl_few.Inv w0 (W.setCell ⟨Bw, 0, none⟩ (.slice A wl.length c)) A0 n c0 Bp Bo Bw Bq K W1 wl (.slice A wl.length c) O vO := by
  have e : (wl ++ [x]).take wl.length = wl := by simp
  have hr := Kd.R_take (m := wl.length) h.rw (by simp)
  rw [e] at hr
  have eb : (Value.slice A wl.length c).ownBlock = (Value.slice A (wl ++ [x]).length c).ownBlock := by cases A <;> rfl
  refine ⟨below_set h.below h.gw, ?_, ?_, ?_, ?_, ?_, ?_, h.go, h.gw, ?_, fun b hk => ?_⟩
  · exact blk_far h.bp (show Bp ≠ Bw from blk_ne h.bp h.bw (by decide)) _
  · exact blk_far h.bo (show Bo ≠ Bw from blk_ne h.bo h.bw (by decide)) _
  · exact blk_put h.bw 0 _ rfl
  · exact blk_far h.bq (show Bq ≠ Bw from blk_ne h.bq h.bw (by decide)) _
  · rw [eb]; exact Kd.S_far h.so (fun k hk => hk.1.2.2.1) _
  · exact Kd.R_far hr (fun k hk => hk.1.2.2.1) _
  · rw [impl_few.ssz]; exact h.ks
  · obtain ⟨h1, h2, h3, h4, h5, h6⟩ := h.kp b hk
    exact ⟨(Below.heap_setCell W _ _ b h4).trans h1, h2, h3, h4, h5, by rw [eb]; exact h6⟩
open Go.Proofs.Ytldbabadbggleaa.X in
set_option maxHeartbeats 1600000 in
set_option maxRecDepth 100000 in
theorem impl_few.lit0 (w0 : World) (A0 : Option Addr) (c0 : Nat) (l0 : List Int) (t : Int) (Bp Bo Bw Bq : Nat) (K : Nat → Prop) (W1 : World) (vW : Value) (hr0 : Kd.C (Kd.int .i64) w0 A0 l0.length l0) (hc0 : l0.length ≤ c0) (ht : impl_Poset_all.f l0 = some t) (wl : List Int) (O : List (List Int)) (vO : Value) (W : World) (hI : impl_few.Inv w0 W A0 l0.length c0 Bp Bo Bw Bq K W1 wl vW O vO) (hl : wl.length < 17592186044416 ∧ O.length < 5864062014805) :
    Calls Try.prog 72 #[.int .i64 t, .pointer (some ⟨Bp, 0, none⟩), .pointer (some ⟨Bo, 0, none⟩), .pointer (some ⟨Bw, 0, none⟩), .pointer (some ⟨Bq, 0, none⟩)] W fun e W' => e = .returned (.tuple #[]) ∧ ∃ vO', impl_few.Inv w0 W' A0 l0.length c0 Bp Bo Bw Bq K W1 wl vW (O ++ [wl]) vO' := by
  have HR := Aside0.mk hr0
  have HC := Aside0.mk hc0
  have HT := Aside0.mk ht
  have HL := Aside0.mk hl
  have HI := Aside0.mk hI
  have zp := blk_cell hI.bp 0
  clear hr0 hc0 hl hI ht
  have hu := Try.underlying29
  go_enter Try.func72, Try.ntmps72
  go_wp2_with fail
  refine (impl_Poset_all.calls _ _ l0 t _ (Kd.C_below HR.out HI.out.below) HC.out HT.out).mono ?_
  rintro e w1 ⟨rfl, hb⟩
  have HI1 := Aside0.mk (HI.out.step hb)
  clear hb HI zp
  obtain ⟨Af, cf, eF⟩ := Kd.R_slice HI1.out.rw
  subst eF
  obtain ⟨Ao, co, eO⟩ := Kd.S_slice HI1.out.so
  subst eO
  have zo := blk_cell HI1.out.bo 0
  have zf := blk_cell HI1.out.bw 0
  go_wp2_with fail
  have HCL := Aside0.mk (show slices_Clone_int_int.f wl = some wl by unfold slices_Clone_int_int.f; rw [if_pos HL.out.1])
  have FR := Aside0.mk (show ∀ k_, w1.heap.size ≤ k_ → (impl_few.okX Bp Bo Bw Bq k_ ∧ some k_ ≠ (Value.slice Af wl.length cf).ownBlock) ∧ some k_ ≠ (Value.slice Ao O.length co).ownBlock from fun k_ hk => ⟨⟨⟨by have := blk_lt HI1.out.bp; omega, by have := blk_lt HI1.out.bo; omega, by have := blk_lt HI1.out.bw; omega, by have := blk_lt HI1.out.bq; omega⟩, fun e => by have := Kd.R_lt HI1.out.rw k_ e.symm; omega⟩, fun e => by have := Kd.S_lt HI1.out.so k_ e.symm; omega⟩)
  have NBF := Aside0.mk (show Bw ≠ Bo from blk_ne HI1.out.bw HI1.out.bo (by decide))
  go_region_law
    (first
      | (rw [if_pos (by rfl)]; go_simp; go_at_call 56; refine (slices_Clone_int_int.calls _ _ wl wl _ (Kd.C_below (Kd.R_reads' HI1.out.rw).2.2 (below_drew (Below.refl _ _))) (Kd.R_reads' HI1.out.rw).2.1 HCL.out).mono ?_; rintro e w2 ⟨vC, rfl, hC, hb⟩; obtain ⟨Ac, cc, eC⟩ := Kd.R_slice hC; subst eC; have zo2 := pw_cell_below hb zo; have zf2 := pw_cell_below hb zf; have zo2a := pw_cell_below (below_alloc (Below.refl w2.heap.size w2) (.cells #[.slice Ac wl.length cc] 22)) zo2; have zf2a := pw_cell_below (below_alloc (Below.refl w2.heap.size w2) (.cells #[.slice Ac wl.length cc] 22)) zf2; have B12 := Aside0.mk (show Below w1.heap.size w1 w2 from below_to (below_drew (Below.refl _ _)) hb); have HCC := Aside0.mk (show Kd.R (Kd.int .i64) 3 w2 w1.heap.size (fun _ => True) (.slice Ac wl.length cc) wl from hC); dsimp only)
      | (refine Kd.S_append_step (Kd.slice 3 (Kd.int .i64)) (w0 := w0) w0.heap.size (by rfl) (.tmp 12) (.tmp 15) 26 22 (.slice none 0 0) 24 (by rfl) Try.underlying26 info22 (by rfl) (by decide) (by omega) (.slice Ao O.length co) O wl _ (fun k_ => impl_few.okX Bp Bo Bw Bq k_ ∧ some k_ ≠ (Value.slice Af wl.length cf).ownBlock) (fun k_ => some k_ = (Value.slice Ac wl.length cc).ownBlock) (by rfl) (by rfl) (Kd.M_row (Kd.R_tight rfl (Kd.R_lower HCC.out HI1.out.below.size))) (fun k_ e => FR.out k_ (Kd.R_base HCC.out k_ e.symm)) (fun k_ hk => (FR.out k_ (Nat.le_trans B12.out.size hk)).1) (Kd.S_mono (Kd.S_below (Kd.S_bound HI1.out.so) B12.out) (fun k_ hk => ⟨hk.1, fun e => by have h1 := Kd.R_base HCC.out k_ e.symm; have h2 := hk.2.2.1; omega⟩)) (below_to HI1.out.below B12.out) (Nat.le_trans HI1.out.below.size B12.out.size) (by have := HL.out.2; omega) ?_; intro v3 w3 ho3 hb3 hg3 hat3; obtain ⟨A3, c3, e3⟩ := Kd.S_slice ho3; subst e3; have BO3 := Aside0.mk (blk_grown (blk_below HI1.out.bo B12.out) hg3 (Kd.S_away HI1.out.so (fun _ hk => hk.1.2.1))); have BF3 := Aside0.mk (blk_grown (blk_below HI1.out.bw B12.out) hg3 (Kd.S_away HI1.out.so (fun _ hk => hk.1.2.2.1))); have zo3 := blk_cell BO3.out 0; have zf3 := blk_cell BF3.out 0; have fz3 := blk_frozen BO3.out 0; have zf4 := blk_cell (blk_far BF3.out (p := ⟨Bo, 0, none⟩) NBF.out (.slice A3 (O ++ [wl]).length c3)) 0))
  all_goals
    go_wp2
    ((try simp only [Exit.inBlock, Exit.then]); refine bodyPost_ret (results_none rfl _ _ _) rfl ?_)
    exact ⟨rfl, _, HI1.out.push B12.out ho3 hb3 hg3 hat3⟩
open Go.Proofs.Ytldbabadbggleaa.X in
set_option maxHeartbeats 3200000 in
set_option maxRecDepth 100000 in
theorem impl_few.lit (k : Nat) (w0 : World) (A0 : Option Addr) (c0 : Nat) (l0 : List Int) (t : Int) (Bp Bo Bw Bq : Nat) (hr0 : Kd.C (Kd.int .i64) w0 A0 l0.length l0) (hc0 : l0.length ≤ c0) (ht : impl_Poset_all.f l0 = some t) : ∀ (d : Nat) (s : Int) (wl : List Int) (O O' : List (List Int)) (K : Nat → Prop) (W1 : World) (vW vO : Value) (W : World), impl_few.Inv w0 W A0 l0.length c0 Bp Bo Bw Bq K W1 wl vW O vO → impl_few.put k l0 t d s wl O = some O' →
    Calls Try.prog 72 #[.int .i64 s, .pointer (some ⟨Bp, 0, none⟩), .pointer (some ⟨Bo, 0, none⟩), .pointer (some ⟨Bw, 0, none⟩), .pointer (some ⟨Bq, 0, none⟩)] W fun e W' => e = .returned (.tuple #[]) ∧ ∃ vW' vO', impl_few.Inv w0 W' A0 l0.length c0 Bp Bo Bw Bq K W1 wl vW' O' vO' := by
  intro d
  induction d with
  | zero =>
    intro s wl O O' K W1 vW vO W hI h
    rw [impl_few.put] at h
    split at h
    · rename_i hi
      split at h
      · rename_i hl
        injection h with h
        subst h hi
        refine (impl_few.lit0 w0 A0 c0 l0 s Bp Bo Bw Bq K W1 vW hr0 hc0 ht wl O vO W hI hl).mono ?_
        rintro e W' ⟨he, vO', hI'⟩
        exact ⟨he, vW, vO', hI'⟩
      · cases h
    · cases h
  | succ d ih =>
    intro s wl O O' K W1 vW vO W hI h
    rw [impl_few.put] at h
    by_cases hi : s = t
    · rw [if_pos hi] at h
      split at h
      · rename_i hl
        injection h with h
        subst h hi
        refine (impl_few.lit0 w0 A0 c0 l0 s Bp Bo Bw Bq K W1 vW hr0 hc0 ht wl O vO W hI hl).mono ?_
        rintro e W' ⟨he, vO', hI'⟩
        exact ⟨he, vW, vO', hI'⟩
      · cases h
    · rw [if_neg hi] at h
      have hn_ := Option.bind_eq_some_iff.mp h
      clear h
      obtain ⟨js, hjs, h⟩ := hn_
      split at h
      · rename_i hjl
        have IH := Aside0.mk ih
        have HR := Aside0.mk hr0
        have HC := Aside0.mk hc0
        have HT := Aside0.mk ht
        have HJ := Aside0.mk hjs
        have HJL := Aside0.mk hjl
        have HF := Aside0.mk h
        have HI := Aside0.mk hI
        have zp := blk_cell hI.bp 0
        clear hr0 hc0 hI hjs hjl h ih ht
        have hu := Try.underlying29
        have hib : (s == t) = false := beq_eq_false_iff_ne.mpr hi
        go_enter Try.func72, Try.ntmps72
        go_wp2_with fail
        refine (impl_Poset_all.calls _ _ l0 t _ (Kd.C_below HR.out HI.out.below) HC.out HT.out).mono ?_
        rintro e w1 ⟨rfl, hb⟩
        have HI1 := Aside0.mk (HI.out.step hb)
        clear hb HI zp
        have zp := blk_cell HI1.out.bp 0
        go_wp2_with fail
        refine (impl_Poset_next.calls k _ _ l0 s js _ (Kd.C_below HR.out HI1.out.below) HC.out HJ.out).mono ?_
        rintro e w2 ⟨vJ, rfl, hR, hb⟩
        have HRJ := Aside0.mk hR
        obtain ⟨AJ, cJ, rfl, hlJ, hCJ⟩ := Kd.R_reads hR
        have HI2 := Aside0.mk (HI1.out.step hb)
        have CJ := Aside0.mk hCJ
        have SB := Aside0.mk hb.size
        clear hb hR hCJ hlJ zp
        have FJ := Aside0.mk (show ∀ b, (Value.slice AJ js.length cJ).ownBlock = some b → b < w2.heap.size ∧ b ≠ Bo ∧ b ≠ Bw ∧ some b ≠ vO.ownBlock ∧ some b ≠ vW.ownBlock from fun b hb => by
          have h1 := Kd.R_base HRJ.out b hb
          have h2 := Kd.R_lt HRJ.out b hb
          refine ⟨h2, by have := blk_lt HI1.out.bo; omega, by have := blk_lt HI1.out.bw; omega, fun e => ?_, fun e => ?_⟩
          · have := Kd.S_lt HI1.out.so b e.symm; omega
          · have := Kd.R_lt HI1.out.rw b e.symm; omega)
        have hk2 : ∀ b, (K b ∨ (Value.slice AJ js.length cJ).ownBlock = some b) → w2.heap[b]? = w2.heap[b]? ∧ b < w2.heap.size ∧ b ≠ Bo ∧ b ≠ Bw ∧ some b ≠ vO.ownBlock ∧ some b ≠ vW.ownBlock := fun b hb => by
          rcases hb with hb | hb
          · exact ⟨rfl, Nat.lt_of_lt_of_le (HI2.out.kp b hb).2.1 HI2.out.ks, (HI2.out.kp b hb).2.2⟩
          · exact ⟨rfl, FJ.out b hb⟩
        have HI3 := Aside0.mk (show impl_few.Inv w0 w2 A0 l0.length c0 Bp Bo Bw Bq (fun b => K b ∨ (Value.slice AJ js.length cJ).ownBlock = some b) w2 wl vW O vO from { HI2.out with ks := Nat.le_refl _, kp := hk2 })
        clear hk2 FJ SB HI1
        go_wp2_with fail
        have eg := enters_ Try.func72 (by kernel_rfl) rfl
        go_loopw [7, 21] (fun v7 v21 wi => ∃ (q : Nat) (O1 : List (List Int)) (vW1 vO1 : Value), v21 = .int .i64 q ∧ q ≤ js.length ∧ Aside0 (impl_few.loop (impl_few.put k l0 t d) s wl (js.drop q) O1 = some O') ∧ Aside0 (impl_few.Inv w0 wi A0 l0.length c0 Bp Bo Bw Bq (fun b => K b ∨ (Value.slice AJ js.length cJ).ownBlock = some b) w2 wl vW1 O1 vO1)) (fun _ v21 _ => js.length - (intOf v21).toNat)
        case atStart => exact ⟨0, O, vW, vO, rfl, Nat.zero_le _, ⟨by rw [List.drop_zero]; exact HF.out⟩, HI3⟩
        case round =>
          clear HI3 HF
          obtain ⟨q, O1, vW1, vO1, rfl, hq, HA, HI⟩ := hrel
          by_cases hql : q < js.length
          · have hs := HA.out
            rw [List.drop_eq_getElem_cons hql, impl_few.loop] at hs
            split at hs
            · rename_i hj
              obtain ⟨O2, hO2, hs⟩ := Option.bind_eq_some_iff.mp hs
              have HA2 := Aside0.mk hs
              have HP := Aside0.mk hO2
              have HLW := Aside0.mk hj.2
              obtain ⟨ad1, e1, hx0⟩ := Kd.at_int CJ.out (q : Int) (by omega) (by omega)
              rw [Int.toNat_natCast] at hx0
              cases e1
              have hx : wr.cell? (ad1.add q) = some (.int .i64 js[q]) := by
                rw [impl_few.cell_same (w' := w2) (a := ad1.add q) (by
                  have h1 := (HI.out.kp ad1.block (.inr rfl)).1
                  have h2 : (ad1.add q).block = ad1.block := by cases ad1; cases q <;> rfl
                  rw [h2]; exact h1), hx0, show rd js (q : Int) = js[q] by simp [rd, List.getD_eq_getElem?_getD, hql]]
              obtain ⟨j, hje⟩ : ∃ j, j = js[q] := ⟨_, rfl⟩
              rw [← hje] at hx hj HP
              have p4 : 0 ≤ ((q : Nat) : Int) := by omega
              have q4 : ((q : Nat) : Int) < (js.length : Int) := by omega
              have p5 := hj.1
              have hq1 : q + 1 ≤ js.length := hql
              have e3 : wrap64 ((q : Int) + 1) = ((q + 1 : Nat) : Int) := by have := HJL.out; unfold wrap64; omega
              have zf := blk_cell HI.out.bw 0
              have fz := blk_frozen HI.out.bw 0
              have HP := Aside0.mk (show impl_few.put k l0 t d (Go.bits .or .i64 s (IntKind.i64.wrap (2 ^ min j.toNat 64))) (wl ++ [j]) O1 = some O2 by have h := HP.out; rw [show shl .i64 1 j = IntKind.i64.wrap (2 ^ min j.toNat 64) from by first | rfl | (simp [shl]; done) | (simp [shl]; rfl)] at h; exact h)
              clear hje hx0 hs HA hO2 hj
              have FK := Aside0.mk (show ∀ k_, wr.heap.size ≤ k_ → impl_few.okX Bp Bo Bw Bq k_ ∧ some k_ ≠ vO1.ownBlock from fun k_ hk => ⟨⟨by have := blk_lt HI.out.bp; omega, by have := blk_lt HI.out.bo; omega, by have := blk_lt HI.out.bw; omega, by have := blk_lt HI.out.bq; omega⟩, fun e => by have := Kd.S_lt HI.out.so k_ e.symm; omega⟩)
              go_wp2_with (first | ((with_reducible refine gate_dst (N := 27) rfl ?_); refine wpList_plain rfl (fun K' hK' => ?_); unfold Oper.wp; go_simp; refine hK' _ _ ?_; clear hK'; at_builtin; refine Kd.R_append (Kd.int .i64) (w0 := w0) w0.heap.size rfl (.tmp 25) (.tmp 27) 22 3 (.int .i64 0) 8 rfl Try.underlying22 info3 rfl (by decide) (by omega) vW1 wl j [.int .i64 j] (fun k_ => impl_few.okX Bp Bo Bw Bq k_ ∧ some k_ ≠ vO1.ownBlock) (fun _ => False) rfl rfl ?aP (fun _ hk => hk.elim) ?aF ?aO ?aB ?aS ?aL ?_; (case aP => exact rfl); (case aF => exact fun k_ hk => FK.out k_ hk); (case aO => exact HI.out.rw); (case aB => exact HI.out.below); (case aS => exact HI.out.below.size); (case aL => have := HLW.out; omega); intro v28 w6 ho hb hg hat; obtain ⟨A28, c28, e28⟩ := Kd.R_slice ho; subst e28; rw [show (wl ++ [j]).length = wl.length + 1 from by simp] at ho hat; have BW6 := Aside0.mk (blk_grown HI.out.bw hg (fun e => (HI.out.rw.1 Bw e.symm).1.2.2.1 rfl)); have HI6 := Aside0.mk (HI.out.app (Below.refl _ _) ho hb hg hat); have zf6 := blk_cell BW6.out 0; have fz6 := blk_frozen BW6.out 0; have zq6 := blk_cell HI6.out.bq 0; clear ho hb hg hat zf fz HI FK))
              go_region_law (first | (rw [if_pos (by rfl)]; go_simp; refine (IH.out _ (wl ++ [j]) O1 O2 _ _ _ vO1 _ (HI6.out.step (below_drew (Below.refl _ _))).rebase HP.out).mono ?_; rintro e w7 ⟨rfl, vW7, vO7, hI7⟩; have HI7 := Aside0.mk (hI7.back (HI6.out.step (below_drew (Below.refl _ _))) (fun b h => h)); clear hI7 HI6; dsimp only))
              all_goals
                obtain ⟨A7, c7, e7⟩ := Kd.R_slice HI7.out.rw
                subst e7
                have e7n : (wl ++ [j]).length = wl.length + 1 := by simp
                have q7 : ((wl.length : Nat) : Int) ≤ (c7 : Int) := by have h := (Kd.R_reads' HI7.out.rw).2.1; rw [e7n] at h; omega
                have q8 : 0 ≤ ((wl.length : Nat) : Int) := by omega
                have e8 : wrap64 ((wl.length : Nat) : Int) = ((wl.length : Nat) : Int) := by have := HLW.out; unfold wrap64; omega
                have zf7 := blk_cell HI7.out.bw 0
                have fz7 := blk_frozen HI7.out.bw 0
                rw [e7n] at zf7
                clear e7n
                go_wp2
                go_roundw
                case rel => exact ⟨q + 1, O2, _, _, by first | rfl | go_num, hq1, HA2, ⟨HI7.out.cut⟩⟩
                case measure => (try simp only [e3]); exact (Nat.sub_lt_sub_left hql (Nat.lt_succ_self q) : js.length - (q + 1) < js.length - q)
            · cases hs
          · have hs := HA.out
            rw [List.drop_of_length_le (by omega), impl_few.loop] at hs
            injection hs with hs
            subst hs
            clear HA
            go_wp2
            go_end0
            exact ⟨rfl, _, _, HI.out.back HI2.out (fun b hb => .inl hb)⟩
      · cases h
theorem impl_few.asz (w : World) (o : Obj) : (w.alloc o).heap.size = w.heap.size + 1 := Array.size_push ..
theorem impl_few.new (w : World) (o : Obj) {g : Nat} (h : g = w.heap.size) : (w.alloc o).heap[g]? = some o := by subst h; exact blk_new w o
theorem impl_few.lit_R {α : Type} (d : Kd α) {W : World} (base e g : Nat) {xs : List α} {inner : List Value} {ok okp : Nat → Prop} (hrep : Reps (d.M W base okp) d.sz xs inner) (hok : ∀ k, okp k → ok k) (hg : g = W.heap.size) (hfresh : ok g) (hbase : base ≤ g) (hm : xs.length ≤ 9223372036854775807) :
    d.R e (W.alloc (.cells inner.toArray e)) base ok (.slice (some ⟨g, 0, none⟩) xs.length xs.length) xs := by
  subst hg
  refine ⟨fun k hk => ?_, inner, ?_, ?_⟩
  · have : W.heap.size = k := by simpa [Value.ownBlock] using hk
    subst this
    exact hfresh
  · have h2 := World.ownsRow_lit (base := base) (e := e) (size := d.sz) W inner.toArray xs.length hbase (by simpa [maxLen] using hm) (by simpa using hrep.1)
    simpa using h2
  · refine hrep.imp_ (fun p c hp => d.M_mono (fun k hk => ⟨hok k hk.1, fun he => ?_⟩) (Kd.M_below (d.M_bound hp) (below_alloc (Below.refl _ _) _)))
    have h3 : k = W.heap.size := by simpa [Value.ownBlock] using he
    have := hk.2.2.1
    omega
theorem impl_few.init (w w2 : World) (A0 : Option Addr) (n c0 : Nat) (hb : Below w.heap.size w w2) (hp : w2.heap[w.heap.size]? = some (.cells #[.slice A0 n c0] 29 (0, 0))) (W : World)
    (hW : W = ((((w2.alloc (.cells #[] 22)).alloc (.cells #[] 3)).alloc (.cells #[.slice (some ⟨w2.heap.size, 0, none⟩) 0 0] 26)).alloc (.cells #[.slice (some ⟨w2.heap.size + 1, 0, none⟩) 0 0] 22)).alloc (.cells #[.func (.func 72) #[] #[.pointer (some ⟨w.heap.size, 0, none⟩), .pointer (some ⟨w2.heap.size + 1 + 1, 0, none⟩), .pointer (some ⟨w2.heap.size + 1 + 1 + 1, 0, none⟩), .pointer (some ⟨w2.heap.size + 1 + 1 + 1 + 1, 0, none⟩)]] 61)) :
    impl_few.Inv w W A0 n c0 w.heap.size (w2.heap.size + 1 + 1) (w2.heap.size + 1 + 1 + 1) (w2.heap.size + 1 + 1 + 1 + 1) (fun _ => False) W [] (.slice (some ⟨w2.heap.size + 1, 0, none⟩) 0 0) [] (.slice (some ⟨w2.heap.size, 0, none⟩) 0 0) := by
  have hl := blk_lt hp
  have hs := hb.size
  have own : ∀ g m c, (Value.slice (some ⟨g, 0, none⟩) m c).ownBlock = some g := fun _ _ _ => rfl
  subst hW
  refine ⟨below_alloc (below_alloc (below_alloc (below_alloc (below_alloc hb _) _) _) _) _, blk_alloc (blk_alloc (blk_alloc (blk_alloc (blk_alloc hp _) _) _) _) _, ?_, ?_, ?_, ?_, ?_, by omega, by omega, Nat.le_refl _, fun b h => h.elim⟩
  · exact blk_alloc (blk_alloc (impl_few.new _ _ (by rw [impl_few.asz, impl_few.asz])) _) _
  · exact blk_alloc (impl_few.new _ _ (by rw [impl_few.asz, impl_few.asz, impl_few.asz])) _
  · exact impl_few.new _ _ (by rw [impl_few.asz, impl_few.asz, impl_few.asz, impl_few.asz])
  · exact Kd.S_alloc (Kd.S_alloc (Kd.S_alloc (Kd.S_alloc (Kd.S_bare (impl_few.lit_R (Kd.bare (Kd.slice 3 (Kd.int .i64))) (W := w2) w.heap.size 22 w2.heap.size (xs := []) (inner := []) (okp := fun _ => False) (Reps.none _ _) (fun _ h => h.elim) rfl (by rw [own]; refine ⟨⟨?_, ?_, ?_, ?_⟩, fun e => ?_⟩ <;> (try injection e) <;> omega) (by omega) (Nat.zero_le _))) _) _) _) _
  · exact Kd.R_alloc (Kd.R_alloc (Kd.R_alloc (impl_few.lit_R (Kd.int .i64) (W := w2.alloc (.cells #[] 22)) w.heap.size 3 (w2.heap.size + 1) (xs := []) (inner := []) (okp := fun _ => False) (Reps.none _ _) (fun _ h => h.elim) (impl_few.asz _ _).symm (by rw [own]; refine ⟨⟨?_, ?_, ?_, ?_⟩, fun e => ?_⟩ <;> (try injection e) <;> omega) (by omega) (Nat.zero_le _)) _) _) _
open Go.Proofs.Ytldbabadbggleaa.X in
set_option maxHeartbeats 3200000 in
set_option maxRecDepth 100000 in
theorem impl_few.calls (k : Nat) (A0_0 : Option Addr) (c0_0 : Nat) (l0_0 : List Int) (r1 : List (List Int)) (r2 : Bool) (w : World) (hr0_0 : Kd.C (Kd.int .i64) w A0_0 l0_0.length l0_0) (hc0_0 : l0_0.length ≤ c0_0) (h : impl_few.f k l0_0 = some (r1, r2)) :
    Calls Try.prog 57 #[.agg #[.slice A0_0 l0_0.length c0_0]] w fun e w' => ∃ v0_ : Value, e = .returned (.tuple #[v0_, .bool r2]) ∧ Kd.S (Kd.slice 3 (Kd.int .i64)) 22 w' w.heap.size (fun _ => True) v0_ r1 ∧ Below w.heap.size w w' := by
  have HR := Aside0.mk hr0_0
  have HC := Aside0.mk hc0_0
  clear hr0_0 hc0_0
  unfold impl_few.f at h
  obtain ⟨b, hb, h⟩ := Option.bind_eq_some_iff.mp h
  have HT := Aside0.mk hb
  clear hb
  have hu := Try.underlying29
  have B0 := Aside0.mk (below_alloc (Below.refl w.heap.size w) (.cells #[.slice A0_0 l0_0.length c0_0] 29))
  cases b with
  | false =>
    have h' : some (([] : List (List Int)), false) = some (r1, r2) := h
    injection h' with h'
    injection h' with h1 h2
    subst h1 h2
    clear h
    go_enter Try.func57, Try.ntmps57
    go_wp2_with fail
    refine (impl_IsPoset.calls k _ _ l0_0 false _ (Kd.C_below HR.out B0.out) HC.out HT.out).mono ?_
    rintro e w1 ⟨rfl, hb⟩
    have B1 := Aside0.mk (below_to B0.out hb)
    clear hb
    go_wp2
    go_ret2
    exact ⟨_, rfl, Kd.S_nil _ _ _ _ _, B1.out⟩
  | true =>
    rw [if_pos rfl] at h
    obtain ⟨ws, hws, h⟩ := Option.bind_eq_some_iff.mp h
    split at h
    · rename_i hlen
      have HW := Aside0.mk hws
      have H := Aside0.mk h
      clear hws h
      go_enter Try.func57, Try.ntmps57
      go_wp2_with fail
      refine (impl_IsPoset.calls k _ _ l0_0 true _ (Kd.C_below HR.out B0.out) HC.out HT.out).mono ?_
      rintro e w1 ⟨rfl, hb⟩
      have P1 := Aside0.mk (blk_below (blk_new w (.cells #[.slice A0_0 l0_0.length c0_0] 29)) hb)
      have x1 := blk_cell P1.out 0
      have B1 := Aside0.mk (below_to B0.out hb)
      clear hb
      go_wp2_with fail
      refine (impl_Poset_ways.calls k _ _ l0_0 ws _ (Kd.C_below HR.out B1.out) HC.out HW.out).mono ?_
      rintro e w2 ⟨v2, rfl, hR, hb⟩
      obtain ⟨A2, c2, rfl, hl2, hC2⟩ := Kd.R_reads hR
      have P2 := Aside0.mk (blk_below P1.out hb)
      have x2 := blk_cell P2.out 0
      have B2 := Aside0.mk (below_to B1.out hb)
      obtain ⟨ad, e1, hx⟩ := Kd.at_int hC2 (0 : Int) (by omega) (by omega)
      cases e1
      clear hb hR hl2 hC2 x1 P1
      have hx : w2.cell? ad = some (.int .i64 (rd ws 0)) := by
        have h := hx
        rw [show (0 : Int).toNat = 0 from rfl, show ad.add 0 = ad from by first | rfl | (cases ad; rfl) | (cases ad; simp [Addr.add])] at h
        exact h
      by_cases hg : rd ws 0 > 500
      · have h' : some (([] : List (List Int)), false) = some (r1, r2) := by have h := H.out; rw [if_pos hg] at h; exact h
        injection h' with h'
        injection h' with h1 h2
        subst h1 h2
        have hg1 : decide (500 < rd ws 0) = true := decide_eq_true hg
        go_wp2
        go_ret2
        exact ⟨_, rfl, Kd.S_nil _ _ _ _ _, B2.out⟩
      · have h := H.out
        rw [if_neg hg] at h
        obtain ⟨t, ht, h⟩ := Option.bind_eq_some_iff.mp h
        obtain ⟨O, hO, h⟩ := Option.bind_eq_some_iff.mp h
        injection h with h
        injection h with h1 h2
        subst h1 h2
        have HP := Aside0.mk ht
        have HO := Aside0.mk hO
        have hg1 : decide (500 < rd ws 0) = false := decide_eq_false hg
        clear H ht hO
        have eg := enters_ Try.func72 (by kernel_rfl) rfl
        have hsf : ∀ (a_ : Addr) (f_ : Fn) (x_ y_ : Array Value) (w_ : World), (store a_ (.func f_ x_ y_) .plain).run Try.prog w_ = stored Try.prog w_ a_ (.func f_ x_ y_) .plain := fun a_ f_ x_ y_ w_ => run_store Try.prog w_ a_ (.func f_ x_ y_) .plain rfl
        go_wp2_with fail
        refine (impl_few.lit k w A0_0 c0_0 l0_0 t _ _ _ _ HR.out HC.out HP.out l0_0.length 0 [] [] O _ _ _ _ _ (impl_few.init w w2 A0_0 l0_0.length c0_0 B2.out P2.out _ rfl) HO.out).mono ?_
        rintro e w4 ⟨rfl, vW4, vO4, hI⟩
        obtain ⟨Ao, co, eO⟩ := Kd.S_slice hI.so
        subst eO
        have zo := blk_cell hI.bo 0
        have HS := Aside0.mk (Kd.S_mono hI.so (ok' := fun _ => True) (fun _ _ => trivial))
        have HB := Aside0.mk hI.below
        clear hI
        go_wp2
        go_ret2
        exact ⟨_, rfl, HS.out, HB.out⟩
    · cases h
class Fn2 where
  p : Int → Int → Option Bool
def impl_rectangle_1.f [Fn2] (a0 : Int) (a1 : Int) : Option Bool := Fn2.p a0 a1
end Go.Proofs.Ytldbabadbggleaa.L
end
section
namespace Go.Proofs.Ytldbabadbggleaa.L
open Go.RowKit Go.Proofs.YtldbabadbggleaaW.PrintWords Go.Proofs.YtldbabadbggleaaW.PrintLast Go.Proofs.YtldbabadbggleaaW.PrintMore
attribute [local go_sem] max2_int min2_int max_two min_two max_three min_three max_four min_four
set_option linter.unusedVariables false
variable [Fn2]
set_option linter.unusedSimpArgs false
mutual
def impl_made.l0 : Nat → Int → Int → List Int → Option (List Int)
  | 0, _, _, _ => none
  | k + 1, x11, x12, x179000 => if x12 < x11 then (impl_made.l1 k x12 x11 x12 x12 0 x179000) else (some x179000)
def impl_made.l1 : Nat → Int → Int → Int → Int → Int → List Int → Option (List Int)
  | 0, _, _, _, _, _, _ => none
  | k + 1, x6, x11, x12, x15, x16, x179000 => if x16 < x15 then ((impl_rectangle_1.f x16 x6).bind fun t179 => (if t179 = true then (if 0 ≤ x6 then (if x6 < (x179000.length : Int) then (if 0 ≤ x16 then (impl_made.l1 k x6 x11 x12 x15 (wrap64 (x16 + 1)) (x179000.set (x6 : Int).toNat (Go.bits .or .i64 (rd x179000 x6) (shl .i64 1 x16)))) else (none)) else (none)) else (none)) else (impl_made.l1 k x6 x11 x12 x15 (wrap64 (x16 + 1)) x179000))) else (impl_made.l0 k x11 (wrap64 (x12 + 1)) x179000)
end
def impl_made.f (k : Nat) (a0 : Int) (a1 : Int) : Option (List Int) := if 0 ≤ a0 then (if (a0 : Int).toNat ≤ 35184372088832 then (impl_made.l0 k a0 0 (List.replicate (a0 : Int).toNat 0)) else (none)) else (none)
theorem impl_made.mono_l : ∀ k, (∀ y0 y1 y2, LeO (impl_made.l0 k y0 y1 y2) (impl_made.l0 (k + 1) y0 y1 y2)) ∧ (∀ y0 y1 y2 y3 y4 y5, LeO (impl_made.l1 k y0 y1 y2 y3 y4 y5) (impl_made.l1 (k + 1) y0 y1 y2 y3 y4 y5))
  | 0 => ⟨fun _ _ _ r h => by simp [impl_made.l0] at h, fun _ _ _ _ _ _ r h => by simp [impl_made.l1] at h⟩
  | k + 1 => by
    obtain ⟨ih0, ih1⟩ := impl_made.mono_l k
    refine ⟨?_, ?_⟩
    · intro y0 y1 y2
      unfold impl_made.l0
      repeat' first
      | (with_reducible exact ih0 _ _ _)
      | (with_reducible exact ih1 _ _ _ _ _ _)
      | (with_reducible exact LeO.refl _)
      | (with_reducible exact LeO.none _)
      | (with_reducible refine LeO.ite ?_ ?_)
      | (with_reducible refine LeO.bind ?_ (fun _ => ?_))
      | exact ih0 _ _ _
      | exact ih1 _ _ _ _ _ _
      | exact LeO.none _
      | refine LeO.ite ?_ ?_
      | refine LeO.bind ?_ (fun _ => ?_)
    · intro y0 y1 y2 y3 y4 y5
      unfold impl_made.l1
      repeat' first
      | (with_reducible exact ih0 _ _ _)
      | (with_reducible exact ih1 _ _ _ _ _ _)
      | (with_reducible exact LeO.refl _)
      | (with_reducible exact LeO.none _)
      | (with_reducible refine LeO.ite ?_ ?_)
      | (with_reducible refine LeO.bind ?_ (fun _ => ?_))
      | exact ih0 _ _ _
      | exact ih1 _ _ _ _ _ _
      | exact LeO.none _
      | refine LeO.ite ?_ ?_
      | refine LeO.bind ?_ (fun _ => ?_)
theorem impl_made.mono : ∀ a0 a1 k, LeO (impl_made.f k a0 a1) (impl_made.f (k + 1) a0 a1) := by
  intro a0 a1 k
  obtain ⟨ih0, ih1⟩ := impl_made.mono_l k
  unfold impl_made.f
  repeat' first
      | (with_reducible exact ih0 _ _ _)
      | (with_reducible exact ih1 _ _ _ _ _ _)
      | (with_reducible exact LeO.refl _)
      | (with_reducible exact LeO.none _)
      | (with_reducible refine LeO.ite ?_ ?_)
      | (with_reducible refine LeO.bind ?_ (fun _ => ?_))
      | exact ih0 _ _ _
      | exact ih1 _ _ _ _ _ _
      | exact LeO.none _
      | refine LeO.ite ?_ ?_
      | refine LeO.bind ?_ (fun _ => ?_)
def impl_made.T9 : Bool × List (List Nat × List Nat) := (true, [([], []), ([0], [0]), ([], []), ([1, 2], [1, 2]), ([3], [3]), ([], []), ([5], [5]), ([4, 6], [4, 6]), ([1, 2, 0, 1, 2, 3, 4, 5, 6, 7], [1, 2]), ([8, 7, 0, 1, 2, 3, 4, 5, 6, 7], [7, 8])])
def impl_made.B9 : List Nat := [0, 1, 0, 7, 15, 0, 32, 127, 255, 511]
omit [Fn2] in
theorem impl_made.tab9 : rtab .any (opsOf Try.f75 9) = impl_made.T9 := by kernel_rfl
omit [Fn2] in
theorem impl_made.bits9 : waitsOk impl_made.T9.2 impl_made.B9 = true := by kernel_rfl
set_option maxHeartbeats 8000000 in
set_option maxRecDepth 100000 in
open Go.Proofs.Ytldbabadbggleaa.X in
theorem impl_made.calls (gF : Nat) (lbF : Array Value) (eg : ∀ args w, (callFunc gF args).run Try.prog w = .ok (.enter gF args) w) (k : Nat) (a0 : Int) (a1 : Int) (r : List Int) (w : World) (hpF : ∀ x0_ x1_ b, impl_rectangle_1.f x0_ x1_ = some b → Fv Try.prog gF lbF #[.int .i64 x0_, .int .i64 x1_] (.bool b) w) (h : impl_made.f k a0 a1 = some r) :
    Calls Try.prog 75 #[.int .i64 a0, .func (.func gF) #[] lbF] w fun e w' => ∃ v0_ : Value, e = .returned (.agg #[v0_]) ∧ Kd.R (Kd.int .i64) 3 w' w.heap.size (fun _ => True) v0_ r ∧ Below w.heap.size w w' := by
  have HP := Aside0.mk hpF
  clear hpF
  have hu29 := Try.underlying29
  have HB := Aside0.mk (Below.refl w.heap.size w)
  have H : (if 0 ≤ a0 then (if (a0 : Int).toNat ≤ 35184372088832 then (impl_made.l0 k a0 0 (List.replicate (a0 : Int).toNat 0)) else (none)) else (none)) = some r := h
  clear h
  by_cases c3 : 0 ≤ a0
  · rw [if_pos c3] at H
    have c3b0 := eq_true c3
    have c3b1 : decide (0 ≤ a0) = true := decide_eq_true c3
    clear c3
    by_cases c4 : (a0 : Int).toNat ≤ 35184372088832
    · rw [if_pos c4] at H
      have c4b0 := eq_true c4
      have c4b1 : decide ((a0 : Int).toNat ≤ 35184372088832) = true := decide_eq_true c4
      clear c4
      obtain ⟨y175, hy175⟩ : ∃ y_ : List Int, y_ = (List.replicate (a0 : Int).toNat 0) := ⟨_, rfl⟩
      replace H : (impl_made.l0 k a0 0 y175) = some r := by first | (rw [hy175]; with_reducible exact H) | (have H2_ := (Option.bind_some _ _).symm.trans H; rw [hy175]; with_reducible exact H2_) | (have H2_ := (Option.bind_some _ _).symm.trans H; with_reducible exact H2_) | with_reducible exact H | (rw [hy175]; exact H) | exact H
      have Ny175 := Aside0.mk hy175
      clear hy175
      have H' := Aside0.mk H
      clear H
      go_enter Try.func75, Try.ntmps75
      go_wp2_with (first | ((with_reducible refine gate_dst (N := 4) rfl ?_); refine box_event ?hg (N := 4) ?hd (cs := #[.slice none 0 0]) (t := 29) ?hr ?_; (case hd => rfl); (case hg => rfl); (case hr => first | (go_simp; done) | (go_simp; rfl)); intro gb174 hg w5 hbox hb; have n0_ := Aside0.mk (below_step (by repeat (first | (with_reducible first | exact HB.out | apply below_alloc | apply pw_below_drewN | apply below_drew1) | exact HB.out)) hb); have n1_ := Aside0.mk (hbox); have n2_ := Aside0.mk ((by rw [hg]; exact (below_size (by repeat (first | (with_reducible first | exact HB.out | apply below_alloc | apply pw_below_drewN | apply below_drew1) | exact HB.out))) : w.heap.size ≤ gb174)); have n3_ := Aside0.mk ((by rw [hg]; exact (below_size (by repeat (first | (with_reducible first | exact HB.out | apply below_alloc | apply pw_below_drewN | apply below_drew1) | exact HB.out))) : w.heap.size ≤ gb174)); clear HB; have HB := n0_; have BK174 := n1_; have GW174 := n2_; have GE174 := n3_; clear n0_ n1_ n2_ n3_; clear hb hbox hg) | ((with_reducible refine gate_dst (N := 9) rfl ?_); refine Kd.R_make (Kd.int .i64) _ 3 rfl (N := 9) rfl 22 _ _ rfl a0 rfl rfl Try.underlying22 (.int .i64 0) 8 info3 rfl (by decide) (by omega) 0 (ok := fun _ => True) (okp := fun _ => True) rfl (fun _ hk => hk) trivial (of_decide_eq_true (by first | (with_reducible assumption) | assumption)) (Nat.le_trans (Nat.mul_le_mul_right _ (of_decide_eq_true (by first | (with_reducible assumption) | assumption) : a0.toNat ≤ 35184372088832)) (by omega)) (Below.refl _ _) (Nat.le_refl _) ?_; intro v176 w6 ho7 hb hg_ hnew_; clear hg_ hnew_; (first | rw [← Ny175.out] at ho7 | (simp only [Int.reduceToNat] at ho7; rw [← Ny175.out] at ho7)); have n0_ := Aside0.mk (Kd.R_lower ho7 (below_size (by repeat (first | (with_reducible first | exact HB.out | apply below_alloc | apply pw_below_drewN | apply below_drew1 | refine below_set ?_ GE174.out) | exact HB.out)))); have n1_ := Aside0.mk (blk_below (g := gb174) (o := .cells #[.slice none 0 0] 29 (0, 0)) (by (with_reducible repeat (first | refine blk_drewN ?_ _ | refine blk_drew ?_ | refine blk_alloc ?_ _)); exact BK174.out) hb); have n2_ := Aside0.mk (below_step (by repeat (first | (with_reducible first | exact HB.out | apply below_alloc | apply pw_below_drewN | apply below_drew1 | refine below_set ?_ GE174.out) | exact HB.out)) hb); clear BK174; clear HB; have HO177 := n0_; have BK174 := n1_; have HB := n2_; clear n0_ n1_ n2_; clear hb ho7; obtain ⟨Ao8, co8, eo8⟩ := Kd.R_slice HO177.out; subst eo8) | ((with_reducible refine gate_dst (N := 5) rfl ?_); refine box_event ?hg (N := 5) ?hd (cs := #[.slice none 0 0]) (t := 29) ?hr ?_; (case hd => rfl); (case hg => rfl); (case hr => first | (go_simp; done) | (go_simp; rfl)); intro gb178 hg w9 hbox hb; have n0_ := Aside0.mk (Kd.R_below (by (with_reducible repeat (first | apply Kd.R_alloc | apply Kd.R_drewN | apply Kd.R_drew)); exact HO177.out) hb); have n1_ := Aside0.mk (blk_below (g := gb174) (o := .cells #[.slice none 0 0] 29 (0, 0)) (by (with_reducible repeat (first | refine blk_drewN ?_ _ | refine blk_drew ?_ | refine blk_alloc ?_ _)); exact BK174.out) hb); have n2_ := Aside0.mk (below_step (by repeat (first | (with_reducible first | exact HB.out | apply below_alloc | apply pw_below_drewN | apply below_drew1 | refine below_set ?_ GE174.out) | exact HB.out)) hb); have n3_ := Aside0.mk (hbox); have n4_ := Aside0.mk ((by rw [hg]; exact (below_size (by repeat (first | (with_reducible first | exact HB.out | apply below_alloc | apply pw_below_drewN | apply below_drew1 | refine below_set ?_ GE174.out) | exact HB.out))) : w.heap.size ≤ gb178)); have n5_ := Aside0.mk ((by rw [hg]; exact (below_size (by repeat (first | (with_reducible first | exact HB.out | apply below_alloc | apply pw_below_drewN | apply below_drew1 | refine below_set ?_ GE174.out) | exact HB.out))) : w.heap.size ≤ gb178)); have n6_ := Aside0.mk ((by rw [hg]; exact Nat.ne_of_lt (blk_lt (g := gb174) (o := .cells #[.slice none 0 0] 29 (0, 0)) (by (with_reducible repeat (first | refine blk_drewN ?_ _ | refine blk_drew ?_ | refine blk_alloc ?_ _)); exact BK174.out)) : gb174 ≠ gb178)); have n7_ := Aside0.mk ((by rw [hg]; exact Nat.ne_of_gt (blk_lt (g := gb174) (o := .cells #[.slice none 0 0] 29 (0, 0)) (by (with_reducible repeat (first | refine blk_drewN ?_ _ | refine blk_drew ?_ | refine blk_alloc ?_ _)); exact BK174.out)) : gb178 ≠ gb174)); clear HO177; clear BK174; clear HB; have HO177 := n0_; have BK174 := n1_; have HB := n2_; have BK178 := n3_; have GW178 := n4_; have GE178 := n5_; have NB174_178 := n6_; have NB178_174 := n7_; clear n0_ n1_ n2_ n3_ n4_ n5_ n6_ n7_; clear hb hbox hg; have hnb10 := NB178_174.out; have hnc10 := NB174_178.out; have hcz11_0 : w9.cell? ⟨gb178, 0, none⟩ = some (.slice none 0 0) := (blk_cell BK178.out 0).trans rfl; have hfz11_0 := blk_frozen BK178.out 0))
      go_loopg [12] k (fun kq v12 w' => ∃ (x12_1 : Int) (x179000_1 : List Int) (u179000 : Value), v12 = .int .i64 x12_1 ∧ Aside0 (impl_made.l0 kq a0 x12_1 x179000_1 = some r) ∧ Aside0 (kq ≤ k) ∧ Aside0 (Kd.R (Kd.int .i64) 3 w' w.heap.size (fun _ => True) u179000 x179000_1) ∧ Aside0 (w'.heap[gb174]? = some (.cells #[(.slice none 0 0)] 29 (0, 0))) ∧ Aside0 (w'.heap[gb178]? = some (.cells #[u179000] 29 (0, 0))) ∧ Aside0 (Below w.heap.size w w'))
      case atStart => exact ⟨(0), (y175), (.slice Ao8 y175.length co8), (by first | rfl | (simp; done) | (simp [*]; done)), H', ⟨Nat.le_refl _⟩, ⟨by (with_reducible repeat (first | apply Kd.R_alloc | apply Kd.R_drewN | apply Kd.R_drew)); exact Kd.R_mono (Kd.R_far (p := ⟨gb178, 0, none⟩) (Kd.R_types HO177.out BK178.out (by decide)) (fun _ hk => hk.2) (.slice Ao8 y175.length co8)) (fun _ hk => trivial)⟩, ⟨by (with_reducible repeat (first | refine blk_drewN ?_ _ | refine blk_drew ?_ | refine blk_alloc ?_ _)); refine blk_far ?_ NB174_178.out _; (with_reducible repeat (first | refine blk_drewN ?_ _ | refine blk_drew ?_ | refine blk_alloc ?_ _)); exact BK174.out⟩, ⟨by (with_reducible repeat (first | refine blk_drewN ?_ _ | refine blk_drew ?_ | refine blk_alloc ?_ _)); refine blk_put (cs := #[.slice none 0 0]) ?_ 0 _ rfl; (with_reducible repeat (first | refine blk_drewN ?_ _ | refine blk_drew ?_ | refine blk_alloc ?_ _)); exact BK178.out⟩, ⟨by repeat (first | (with_reducible first | exact HB.out | apply below_alloc | apply pw_below_drewN | apply below_drew1 | refine below_set ?_ GE174.out | refine below_set ?_ GE178.out) | exact HB.out)⟩⟩
      case round =>
        clear H'
        try clear c1
        try clear p2
        try clear c3
        try clear c3b0
        try clear c3b1
        try clear c4
        try clear c4b0
        try clear c4b1
        try clear c7
        try clear c10
        try clear hcz11_0
        try clear hfz11_0
        obtain ⟨x12_1, x179000_1, u179000, rfl, HA, HK1, HO_179000, BK174, BK178, HB⟩ := hrel
        cases gk with
        | zero => exact absurd HA.out (by simp [impl_made.l0])
        | succ k1 =>
          have H := HA.out
          clear HA
          simp only [impl_made.l0] at H
          by_cases c12 : x12_1 < a0
          · rw [if_pos c12] at H
            have c12b0 : decide (x12_1 < a0) = true := decide_eq_true c12
            clear c12
            have H' := Aside0.mk H
            clear H
            go_wp2
            go_loopg [16] k1 (fun kq v16 w' => ∃ (x16_2 : Int) (x179000_2 : List Int) (u179000 : Value), v16 = .int .i64 x16_2 ∧ Aside0 (impl_made.l1 kq x12_1 a0 x12_1 x12_1 x16_2 x179000_2 = some r) ∧ Aside0 (kq ≤ k1) ∧ Aside0 (Kd.R (Kd.int .i64) 3 w' w.heap.size (fun _ => True) u179000 x179000_2) ∧ Aside0 (w'.heap[gb174]? = some (.cells #[(.slice none 0 0)] 29 (0, 0))) ∧ Aside0 (w'.heap[gb178]? = some (.cells #[u179000] 29 (0, 0))) ∧ Aside0 (Below w.heap.size w w'))
            case atStart => exact ⟨(0), (x179000_1), (u179000), (by first | rfl | (simp; done) | (simp [*]; done)), H', ⟨Nat.le_refl _⟩, ⟨by (with_reducible repeat (first | apply Kd.R_alloc | apply Kd.R_drewN | apply Kd.R_drew)); exact HO_179000.out⟩, ⟨by (with_reducible repeat (first | refine blk_drewN ?_ _ | refine blk_drew ?_ | refine blk_alloc ?_ _)); exact BK174.out⟩, ⟨by (with_reducible repeat (first | refine blk_drewN ?_ _ | refine blk_drew ?_ | refine blk_alloc ?_ _)); exact BK178.out⟩, ⟨by repeat (first | (with_reducible first | exact HB.out | apply below_alloc | apply pw_below_drewN | apply below_drew1 | refine below_set ?_ GE174.out | refine below_set ?_ GE178.out) | exact HB.out)⟩⟩
            case round =>
              clear H'
              try clear c1
              try clear p2
              try clear c3
              try clear c3b0
              try clear c3b1
              try clear c4
              try clear c4b0
              try clear c4b1
              try clear c7
              try clear c10
              try clear c12
              try clear c12b0
              try clear hcz11_0
              try clear hfz11_0
              try clear p2
              obtain ⟨x16_2, x179000_2, u179000, rfl, HA, HK2, HO_179000, BK174, BK178, HB⟩ := hrel
              cases gk with
              | zero => exact absurd HA.out (by simp [impl_made.l1])
              | succ k2 =>
                have H := HA.out
                clear HA
                simp only [impl_made.l1] at H
                by_cases c13 : x16_2 < x12_1
                · rw [if_pos c13] at H
                  have c13b0 : decide (x16_2 < x12_1) = true := decide_eq_true c13
                  clear c13
                  replace H := Option.bind_eq_some_iff.mp H
                  obtain ⟨t179, A140, H⟩ := H
                  replace H : (if t179 = true then (if 0 ≤ x12_1 then (if x12_1 < (x179000_2.length : Int) then (if 0 ≤ x16_2 then (impl_made.l1 k2 x12_1 a0 x12_1 x12_1 (wrap64 (x16_2 + 1)) (x179000_2.set (x12_1 : Int).toNat (Go.bits .or .i64 (rd x179000_2 x12_1) (shl .i64 1 x16_2)))) else (none)) else (none)) else (none)) else (impl_made.l1 k2 x12_1 a0 x12_1 x12_1 (wrap64 (x16_2 + 1)) x179000_2)) = some r := H
                  have A14 := Aside0.mk A140
                  clear A140
                  by_cases c15 : t179 = true
                  · subst c15
                    have H1 : (if 0 ≤ x12_1 then (if x12_1 < (x179000_2.length : Int) then (if 0 ≤ x16_2 then (impl_made.l1 k2 x12_1 a0 x12_1 x12_1 (wrap64 (x16_2 + 1)) (x179000_2.set (x12_1 : Int).toNat (Go.bits .or .i64 (rd x179000_2 x12_1) (shl .i64 1 x16_2)))) else (none)) else (none)) else (none)) = some r := by rw [if_pos rfl] at H; exact H
                    clear H
                    have H := H1
                    clear H1
                    by_cases c16 : 0 ≤ x12_1
                    · rw [if_pos c16] at H
                      have c16b0 : decide (0 ≤ x12_1) = true := decide_eq_true c16
                      clear c16
                      by_cases c17 : x12_1 < (x179000_2.length : Int)
                      · rw [if_pos c17] at H
                        have c17b0 : decide (x12_1 < (x179000_2.length : Int)) = true := decide_eq_true c17
                        clear c17
                        by_cases c18 : 0 ≤ x16_2
                        · rw [if_pos c18] at H
                          have c18b0 := eq_true c18
                          have c18b1 : decide (0 ≤ x16_2) = true := decide_eq_true c18
                          clear c18
                          obtain ⟨ji19, hji19⟩ : ∃ j_ : Int, (shl .i64 1 x16_2) = j_ := ⟨_, rfl⟩
                          replace H : (impl_made.l1 k2 x12_1 a0 x12_1 x12_1 (wrap64 (x16_2 + 1)) (x179000_2.set (x12_1 : Int).toNat (Go.bits .or .i64 (rd x179000_2 x12_1) (ji19)))) = some r := by first | (rw [hji19] at H; exact H) | (simp only [hji19] at H ⊢; exact H)
                          (try rw [hji19] at A14)
                          have hji19_ : (IntKind.i64.wrap (1 * 2 ^ min x16_2.toNat 64)) = ji19 := hji19
                          have hji19z : x16_2 ≤ 64 → (IntKind.i64.wrap (1 * 2 ^ x16_2.toNat)) = ji19 := shl_small hji19
                          have hji19u : (IntKind.i64.wrap (2 ^ min x16_2.toNat 64)) = ji19 := by have h_ := hji19_; rw [Int.one_mul] at h_; exact h_
                          have hji19v : x16_2 ≤ 64 → (IntKind.i64.wrap (2 ^ x16_2.toNat)) = ji19 := fun hle_ => by have h_ := hji19z hle_; rw [Int.one_mul] at h_; exact h_
                          have hji19y : (wrap64 (1 * 2 ^ min x16_2.toNat 64)) = ji19 := (i64_w _).symm.trans hji19_
                          have hji19x : x16_2 ≤ 64 → (wrap64 (1 * 2 ^ x16_2.toNat)) = ji19 := fun h_ => (i64_w _).symm.trans (hji19z h_)
                          obtain ⟨y181, hy181⟩ : ∃ y_ : List Int, y_ = (x179000_2.set (x12_1 : Int).toNat (Go.bits .or .i64 (rd x179000_2 x12_1) (ji19))) := ⟨_, rfl⟩
                          replace H : (impl_made.l1 k2 x12_1 a0 x12_1 x12_1 (wrap64 (x16_2 + 1)) y181) = some r := by first | (rw [hy181]; with_reducible exact H) | (have H2_ := (Option.bind_some _ _).symm.trans H; rw [hy181]; with_reducible exact H2_) | (have H2_ := (Option.bind_some _ _).symm.trans H; with_reducible exact H2_) | with_reducible exact H | (rw [hy181]; exact H) | exact H
                          have Ny181 := Aside0.mk hy181
                          clear hy181
                          have H' := Aside0.mk H
                          clear H
                          try go_wp2_with (first | (go_at_fn gF; (with_reducible refine (Fv.calls (HP.out _ _ _ A14.out) (by repeat (first | (with_reducible first | exact HB.out | apply below_alloc | apply pw_below_drewN | apply below_drew1 | refine below_set ?_ GE174.out | refine below_set ?_ GE178.out) | exact HB.out))).mono ?_); rintro e w21 ⟨rfl, hb⟩; have n0_ := Aside0.mk (Kd.R_below (by (with_reducible repeat (first | apply Kd.R_alloc | apply Kd.R_drewN | apply Kd.R_drew)); exact HO_179000.out) hb); have n1_ := Aside0.mk (blk_below (g := gb174) (o := .cells #[.slice none 0 0] 29 (0, 0)) (by (with_reducible repeat (first | refine blk_drewN ?_ _ | refine blk_drew ?_ | refine blk_alloc ?_ _)); exact BK174.out) hb); have n2_ := Aside0.mk (blk_below (g := gb178) (o := .cells #[u179000] 29 (0, 0)) (by (with_reducible repeat (first | refine blk_drewN ?_ _ | refine blk_drew ?_ | refine blk_alloc ?_ _)); exact BK178.out) hb); have n3_ := Aside0.mk (below_step (by repeat (first | (with_reducible first | exact HB.out | apply below_alloc | apply pw_below_drewN | apply below_drew1 | refine below_set ?_ GE174.out | refine below_set ?_ GE178.out) | exact HB.out)) hb); clear HO_179000; clear BK174; clear BK178; clear HB; have HO_179000 := n0_; have BK174 := n1_; have BK178 := n2_; have HB := n3_; clear n0_ n1_ n2_ n3_; (try clear hb); (try clear hb2); (try clear hk); (try clear hi)))
                          have n0_ := Aside0.mk (Kd.R_drew HO_179000.out)
                          have n1_ := Aside0.mk (blk_drew BK174.out)
                          have n2_ := Aside0.mk (blk_drew BK178.out)
                          have n3_ := Aside0.mk (below_drew1 HB.out)
                          clear HO_179000
                          clear BK174
                          clear BK178
                          clear HB
                          have HO_179000 := n0_
                          have BK174 := n1_
                          have BK178 := n2_
                          have HB := n3_
                          clear n0_ n1_ n2_ n3_
                          obtain ⟨Ao23, co23, eo23⟩ := Kd.R_slice HO_179000.out
                          (first | subst eo23 | (injection eo23 with f1_ f2_ f3_; have f4_ := f1_.symm; have f5_ := f3_.symm; clear f1_ f2_ f3_; subst f4_; subst f5_))
                          have p180 : 0 ≤ (x12_1 : Int) := of_decide_eq_true (by first | (with_reducible assumption) | assumption)
                          have q180 : x12_1 < (x179000_2.length : Int) := of_decide_eq_true (by first | (with_reducible assumption) | assumption)
                          obtain ⟨ad180, e180, hx180_0⟩ := Kd.at_int (Kd.R_reads' HO_179000.out).2.2 x12_1 p180 q180
                          cases e180
                          replace p180 := eq_true p180
                          replace q180 := eq_true q180
                          have p20 : 0 ≤ (x12_1 : Int) := of_decide_eq_true (by first | (with_reducible assumption) | assumption)
                          have q20 : (x12_1 : Int) < ((x179000_2.length : Int) : Int) := of_decide_eq_true (by first | (with_reducible assumption) | assumption)
                          obtain ⟨go20, co20, eo20, gb20, gl20, cl20, HG20⟩ := Kd.R_form HO_179000.out (by omega)
                          (first | cases eo20 | (injection eo20 with ea_ en_ ec_; (first | subst ea_ | (injection ea_ with ea_; subst ea_)); subst ec_; clear en_))
                          have GB20 := Aside0.mk gb20
                          have GG20 := Aside0.mk HG20
                          clear gb20 gl20 HG20
                          (first | simp only [add_plain] at hx180_0 | skip)
                          obtain ⟨hx20_0, hf20_0⟩ := Kd.R_celln 0 HO_179000.out (x12_1 : Int) p20 q20
                          replace p20 := eq_true p20
                          replace q20 := eq_true q20
                          have HP24 := Kd.R_putn HO_179000.out (x12_1 : Int) (Go.bits .or .i64 (rd x179000_2 x12_1) (ji19))
                          rw [← Ny181.out] at HP24
                          have HQ24 := Aside0.mk HP24
                          clear HP24
                          refine start_ (n := 10) (S := fun w' => w'.cell? ⟨gb178, 0, none⟩ = some (.slice (some ⟨go20, 0, none⟩) x179000_2.length co23) ∧ w'.cell? ⟨go20, (x12_1).toNat, none⟩ = some (.int .i64 (rd x179000_2 x12_1))) (ds := [9]) #[false, false, false, false, false, false, false, false, false, false] (by kernel_rfl) rfl rfl ⟨(blk_cell BK178.out 0).trans rfl, hx180_0⟩ (fun hHeld => ?_); refine with_tabW impl_made.tab9 impl_made.bits9 (fun HT_ HW_ => ?_)
                          generalize w21.drew = w22 at HO_179000 BK174 BK178 HB GG20 HQ24 hf20_0 hx180_0 hx20_0 hHeld ⊢
                          refine pure_ (i := 0) (N := some 23) (v := ?_) (a' := ?_) #[true, false, false, false, false, false, false, false, false, false] rfl rfl (any_of HT_.out (by kernel_rfl)) (fun _ _ _ h => h) (Or.inl ⟨by rfl, ?_⟩) ?_ ?_
                          rotate_left
                          · intro w'
                            go_simp
                            with_reducible rfl
                          rotate_left
                          · simp only [Act.put, List.setIfInBounds_toArray, List.set_cons_zero, List.set_cons_succ, i64_w, i32_w]
                            rfl
                          refine pure_ (i := 2) (N := some 25) (v := ?_) (a' := ?_) #[true, false, true, false, false, false, false, false, false, false] rfl rfl (any_of HT_.out (by kernel_rfl)) (fun _ _ _ h => h) (Or.inl ⟨by rfl, ?_⟩) ?_ ?_
                          rotate_left
                          · intro w'
                            go_simp
                            with_reducible rfl
                          rotate_left
                          · simp only [Act.put, List.setIfInBounds_toArray, List.set_cons_zero, List.set_cons_succ, i64_w, i32_w]
                            rfl
                          refine pure_ (i := 5) (N := some 28) (v := ?_) (a' := ?_) #[true, false, true, false, false, true, false, false, false, false] rfl rfl (any_of HT_.out (by kernel_rfl)) (fun _ _ _ h => h) (Or.inl ⟨by rfl, ?_⟩) ?_ ?_
                          rotate_left
                          · intro w'
                            go_simp
                            with_reducible rfl
                          rotate_left
                          · simp only [Act.put, List.setIfInBounds_toArray, List.set_cons_zero, List.set_cons_succ, i64_w, i32_w]
                            rfl
                          refine pure_ (i := 6) (N := some 29) (v := ?_) (a' := ?_) #[true, false, true, false, false, true, true, false, false, false] rfl rfl (any_of HT_.out (by kernel_rfl)) (fun _ _ _ h => h) (Or.inl ⟨by rfl, ?_⟩) ?_ ?_
                          rotate_left
                          · intro w'
                            go_simp
                            with_reducible rfl
                          rotate_left
                          · simp only [Act.put, List.setIfInBounds_toArray, List.set_cons_zero, List.set_cons_succ, i64_w, i32_w]
                            rfl
                          refine take_ (i := 1) (N := some 24) (v := ?_) (a' := ?_) #[true, true, true, false, false, true, true, false, false, false] rfl rfl (take_ofW HT_.out HW_.out (by kernel_rfl)) (fun _ _ _ h => h) (Or.inl ⟨by rfl, ?_⟩) hHeld ?_ ?_
                          rotate_left
                          · rintro w' ⟨s0, s1⟩
                            go_simp
                            with_reducible rfl
                          rotate_left
                          · simp only [Act.put, List.setIfInBounds_toArray, List.set_cons_zero, List.set_cons_succ, i64_w, i32_w]
                            rfl
                          refine pure_ (i := 3) (N := some 26) (v := ?_) (a' := ?_) #[true, true, true, true, false, true, true, false, false, false] rfl rfl (any_of HT_.out (by kernel_rfl)) (fun _ _ _ h => h) (Or.inl ⟨by rfl, ?_⟩) ?_ ?_
                          rotate_left
                          · intro w'
                            go_simp
                            with_reducible rfl
                          rotate_left
                          · simp only [Act.put, List.setIfInBounds_toArray, List.set_cons_zero, List.set_cons_succ, i64_w, i32_w]
                            rfl
                          refine take_ (i := 4) (N := some 27) (v := ?_) (a' := ?_) #[true, true, true, true, true, true, true, false, false, false] rfl rfl (take_ofW HT_.out HW_.out (by kernel_rfl)) (fun _ _ _ h => h) (Or.inl ⟨by rfl, ?_⟩) hHeld ?_ ?_
                          rotate_left
                          · rintro w' ⟨s0, s1⟩
                            go_simp
                            with_reducible rfl
                          rotate_left
                          · simp only [Act.put, List.setIfInBounds_toArray, List.set_cons_zero, List.set_cons_succ, i64_w, i32_w]
                            rfl
                          refine pure_ (i := 7) (N := some 30) (v := ?_) (a' := ?_) #[true, true, true, true, true, true, true, true, false, false] rfl rfl (any_of HT_.out (by kernel_rfl)) (fun _ _ _ h => h) (Or.inl ⟨by rfl, ?_⟩) ?_ ?_
                          rotate_left
                          · intro w'
                            go_simp
                            with_reducible rfl
                          rotate_left
                          · simp only [Act.put, List.setIfInBounds_toArray, List.set_cons_zero, List.set_cons_succ, i64_w, i32_w]
                            rfl
                          refine pure_ (i := 8) (N := some 31) (v := ?_) (a' := ?_) #[true, true, true, true, true, true, true, true, true, false] rfl rfl (any_of HT_.out (by kernel_rfl)) (fun _ _ _ h => h) (Or.inl ⟨by rfl, ?_⟩) ?_ ?_
                          rotate_left
                          · intro w'
                            go_simp
                            with_reducible rfl
                          rotate_left
                          · simp only [Act.put, List.setIfInBounds_toArray, List.set_cons_zero, List.set_cons_succ, i64_w, i32_w]
                            rfl
                          refine last_ (i := 9) (N := none) #[true, true, true, true, true, true, true, true, true, true] rfl rfl (one_of HT_.out (by kernel_rfl)) (by decide) (fun K hK => ?_)
                          refine skip_ (w1 := ?_) (by rfl) rfl ?_ ?_
                          rotate_left
                          · go_simp
                            rfl
                          refine hK.out _ _ ?_
                          clear hK K
                          refine done_ (done_of HT_.out (by kernel_rfl)) ?_
                          try go_wp2
                          go_roundg k2
                          case measure => have := HK1.out; have := HK2.out; omega
                          case rel => exact ⟨(wrap64 (x16_2 + 1)), (y181), (.slice (some ⟨go20, 0, none⟩) x179000_2.length co23), (by first | rfl | (simp; done) | (simp [*]; done)), H', ⟨by have := HK1.out; have := HK2.out; omega⟩, ⟨by (with_reducible repeat (first | apply Kd.R_alloc | apply Kd.R_drewN | apply Kd.R_drew)); exact HQ24.out⟩, ⟨by (with_reducible repeat (first | refine blk_drewN ?_ _ | refine blk_drew ?_ | refine blk_alloc ?_ _)); refine blk_far ?_ (by have h_ := Kd.R_ne HO_179000.out BK174.out (by decide); intro e_; exact h_ (by rw [e_]; rfl)) _; (with_reducible repeat (first | refine blk_drewN ?_ _ | refine blk_drew ?_ | refine blk_alloc ?_ _)); exact BK174.out⟩, ⟨by (with_reducible repeat (first | refine blk_drewN ?_ _ | refine blk_drew ?_ | refine blk_alloc ?_ _)); refine blk_far ?_ (by have h_ := Kd.R_ne HO_179000.out BK178.out (by decide); intro e_; exact h_ (by rw [e_]; rfl)) _; (with_reducible repeat (first | refine blk_drewN ?_ _ | refine blk_drew ?_ | refine blk_alloc ?_ _)); exact BK178.out⟩, ⟨by repeat (first | (with_reducible first | exact HB.out | apply below_alloc | apply pw_below_drewN | apply below_drew1 | refine below_set ?_ GB20.out | refine below_set ?_ GE174.out | refine below_set ?_ GE178.out) | exact HB.out)⟩⟩
                        · rw [if_neg c18] at H
                          exact absurd H (by simp)
                      · rw [if_neg c17] at H
                        exact absurd H (by simp)
                    · rw [if_neg c16] at H
                      exact absurd H (by simp)
                  · replace c15 := Bool.eq_false_iff.mpr c15
                    subst c15
                    have H1 : (impl_made.l1 k2 x12_1 a0 x12_1 x12_1 (wrap64 (x16_2 + 1)) x179000_2) = some r := by rw [if_neg (show ¬ (false = true) by decide)] at H; exact H
                    clear H
                    have H := H1
                    clear H1
                    have H' := Aside0.mk H
                    clear H
                    go_wp2_with (first | (go_at_fn gF; (with_reducible refine (Fv.calls (HP.out _ _ _ A14.out) (by repeat (first | (with_reducible first | exact HB.out | apply below_alloc | apply pw_below_drewN | apply below_drew1 | refine below_set ?_ GE174.out | refine below_set ?_ GE178.out) | exact HB.out))).mono ?_); rintro e w25 ⟨rfl, hb⟩; have n0_ := Aside0.mk (Kd.R_below (by (with_reducible repeat (first | apply Kd.R_alloc | apply Kd.R_drewN | apply Kd.R_drew)); exact HO_179000.out) hb); have n1_ := Aside0.mk (blk_below (g := gb174) (o := .cells #[.slice none 0 0] 29 (0, 0)) (by (with_reducible repeat (first | refine blk_drewN ?_ _ | refine blk_drew ?_ | refine blk_alloc ?_ _)); exact BK174.out) hb); have n2_ := Aside0.mk (blk_below (g := gb178) (o := .cells #[u179000] 29 (0, 0)) (by (with_reducible repeat (first | refine blk_drewN ?_ _ | refine blk_drew ?_ | refine blk_alloc ?_ _)); exact BK178.out) hb); have n3_ := Aside0.mk (below_step (by repeat (first | (with_reducible first | exact HB.out | apply below_alloc | apply pw_below_drewN | apply below_drew1 | refine below_set ?_ GE174.out | refine below_set ?_ GE178.out) | exact HB.out)) hb); clear HO_179000; clear BK174; clear BK178; clear HB; have HO_179000 := n0_; have BK174 := n1_; have BK178 := n2_; have HB := n3_; clear n0_ n1_ n2_ n3_; (try clear hb); (try clear hb2); (try clear hk); (try clear hi)))
                    go_roundg k2
                    case measure => have := HK1.out; have := HK2.out; omega
                    case rel => exact ⟨(wrap64 (x16_2 + 1)), (x179000_2), (u179000), (by first | rfl | (simp; done) | (simp [*]; done)), H', ⟨by have := HK1.out; have := HK2.out; omega⟩, ⟨by (with_reducible repeat (first | apply Kd.R_alloc | apply Kd.R_drewN | apply Kd.R_drew)); exact HO_179000.out⟩, ⟨by (with_reducible repeat (first | refine blk_drewN ?_ _ | refine blk_drew ?_ | refine blk_alloc ?_ _)); exact BK174.out⟩, ⟨by (with_reducible repeat (first | refine blk_drewN ?_ _ | refine blk_drew ?_ | refine blk_alloc ?_ _)); exact BK178.out⟩, ⟨by repeat (first | (with_reducible first | exact HB.out | apply below_alloc | apply pw_below_drewN | apply below_drew1 | refine below_set ?_ GE174.out | refine below_set ?_ GE178.out) | exact HB.out)⟩⟩
                · rw [if_neg c13] at H
                  have c13b0 : decide (x16_2 < x12_1) = false := decide_eq_false c13
                  clear c13
                  have H' := Aside0.mk H
                  clear H
                  go_wp2
                  go_roundg k2
                  case measure => have := HK1.out; have := HK2.out; omega
                  case rel => exact ⟨(wrap64 (x12_1 + 1)), (x179000_2), (u179000), (by first | rfl | (simp; done) | (simp [*]; done)), H', ⟨by have := HK1.out; have := HK2.out; omega⟩, ⟨by (with_reducible repeat (first | apply Kd.R_alloc | apply Kd.R_drewN | apply Kd.R_drew)); exact HO_179000.out⟩, ⟨by (with_reducible repeat (first | refine blk_drewN ?_ _ | refine blk_drew ?_ | refine blk_alloc ?_ _)); exact BK174.out⟩, ⟨by (with_reducible repeat (first | refine blk_drewN ?_ _ | refine blk_drew ?_ | refine blk_alloc ?_ _)); exact BK178.out⟩, ⟨by repeat (first | (with_reducible first | exact HB.out | apply below_alloc | apply pw_below_drewN | apply below_drew1 | refine below_set ?_ GE174.out | refine below_set ?_ GE178.out) | exact HB.out)⟩⟩
          · rw [if_neg c12] at H
            have c12b0 : decide (x12_1 < a0) = false := decide_eq_false c12
            clear c12
            obtain rfl := Option.some.inj H
            have hnb26 := NB178_174.out
            have hnc26 := NB174_178.out
            have hcz27_0 : wr.cell? ⟨gb178, 0, none⟩ = some (u179000) := (blk_cell BK178.out 0).trans rfl
            have hfz27_0 := blk_frozen BK178.out 0
            obtain ⟨Ao28, co28, eo28⟩ := Kd.R_slice HO_179000.out
            subst eo28
            have hcz29_0 : wr.cell? ⟨gb174, 0, none⟩ = some (.slice none 0 0) := (blk_cell BK174.out 0).trans rfl
            have hfz29_0 := blk_frozen BK174.out 0
            go_wp2
            refine bodyPost_ret (results_cell_row rfl _ _ gb174 29 #[.slice Ao28 x179000_1.length co28] (0, 0) _ rfl (by (with_reducible repeat (first | refine blk_drewN ?_ _ | refine blk_drew ?_ | refine blk_alloc ?_ _)); refine blk_put (cs := #[.slice none 0 0]) ?_ 0 _ rfl; (with_reducible repeat (first | refine blk_drewN ?_ _ | refine blk_drew ?_ | refine blk_alloc ?_ _)); exact BK174.out) Try.underlying29 rfl (by kernel_rfl)) rfl ?_
            exact ⟨_, by first | rfl | (simp [errW_none, errW_some] <;> rfl) | (simp [*, errW_none, errW_some] <;> rfl), by (with_reducible repeat (first | apply Kd.R_alloc | apply Kd.R_drewN | apply Kd.R_drew)); exact Kd.R_mono (Kd.R_far (p := ⟨gb174, 0, none⟩) (Kd.R_types HO_179000.out BK174.out (by decide)) (fun _ hk => hk.2) (.slice Ao28 x179000_1.length co28)) (fun _ hk => trivial), by repeat (first | (with_reducible first | exact HB.out | apply below_alloc | apply pw_below_drewN | apply below_drew1 | refine below_set ?_ GE174.out | refine below_set ?_ GE178.out) | exact HB.out)⟩
    · rw [if_neg c4] at H
      exact absurd H (by simp)
  · rw [if_neg c3] at H
    exact absurd H (by simp)
end Go.Proofs.Ytldbabadbggleaa.L
end
section
namespace Go.Proofs.Ytldbabadbggleaa.L
open Go.RowKit Go.Proofs.YtldbabadbggleaaW.PrintWords Go.Proofs.YtldbabadbggleaaW.PrintLast Go.Proofs.YtldbabadbggleaaW.PrintMore
attribute [local go_sem] max2_int min2_int max_two min_two max_three min_three max_four min_four
set_option linter.unusedVariables false
set_option linter.unusedSimpArgs false
@[reducible] def impl_rectangle.inst (b : Int) : Fn2 := ⟨fun j i => if b = 0 then none else some (decide (wrap64 (Int.tdiv j b) ≤ wrap64 (Int.tdiv i b)) && decide (Int.tmod j b ≤ Int.tmod i b))⟩
def impl_rectangle.f (k : Nat) (a0 : Int) (a1 : Int) : Option (List Int) := @impl_made.f (impl_rectangle.inst a1) k (wrap64 (a0 * a1)) 0
theorem impl_rectangle.laid (v : World) (o : Obj) : (v.alloc o).heap[v.heap.size]? = some o := by
  unfold World.alloc; simp
theorem impl_rectangle.mono : ∀ a0 a1 k, LeO (impl_rectangle.f k a0 a1) (impl_rectangle.f (k + 1) a0 a1) := fun a0 a1 k => @impl_made.mono (impl_rectangle.inst a1) _ _ k
open Go.Proofs.Ytldbabadbggleaa.X in
set_option maxHeartbeats 800000 in
set_option maxRecDepth 100000 in
theorem impl_rectangle.lit (b j i : Int) (t : Bool) (B : Nat) (w : World) (hB : B < w.heap.size) (hc : w.cell? ⟨B, 0, none⟩ = some (.int .i64 b)) (h : (impl_rectangle.inst b).p j i = some t) :
    Fv Try.prog 76 #[.pointer (some ⟨B, 0, none⟩)] #[.int .i64 j, .int .i64 i] (.bool t) w := by
  intro W hb
  have hc' : W.cell? ⟨B, 0, none⟩ = some (.int .i64 b) := (hb.cell (p := ⟨B, 0, none⟩) hB).trans hc
  clear hc hB hb
  unfold impl_rectangle.inst at h
  by_cases hb0 : b = 0
  · simp only [hb0, if_true] at h; cases h
  · have h' : some (decide (wrap64 (Int.tdiv j b) ≤ wrap64 (Int.tdiv i b)) && decide (Int.tmod j b ≤ Int.tmod i b)) = some t := by simpa only [if_neg hb0] using h
    obtain rfl := Option.some.inj h'
    clear h h'
    by_cases h1 : wrap64 (Int.tdiv j b) ≤ wrap64 (Int.tdiv i b)
    · have e1 : decide (wrap64 (Int.tdiv j b) ≤ wrap64 (Int.tdiv i b)) = true := decide_eq_true h1
      rw [e1, Bool.true_and]
      clear h1
      go_enter Try.func76, Try.ntmps76
      go_wp2
      repeat (go_quiet (fail); try go_wp2)
      go_ret
      exact ⟨rfl, by first | exact Below.refl _ _ | exact pw_below_drewN (Below.refl _ _) _⟩
    · have e1 : decide (wrap64 (Int.tdiv j b) ≤ wrap64 (Int.tdiv i b)) = false := decide_eq_false h1
      rw [e1, Bool.false_and]
      clear h1
      go_enter Try.func76, Try.ntmps76
      go_wp2
      repeat (go_quiet (fail); try go_wp2)
      go_ret
      exact ⟨rfl, by first | exact Below.refl _ _ | exact pw_below_drewN (Below.refl _ _) _⟩
open Go.Proofs.Ytldbabadbggleaa.X in
set_option maxHeartbeats 800000 in
set_option maxRecDepth 100000 in
theorem impl_rectangle.calls (k : Nat) (a0 : Int) (a1 : Int) (r : List Int) (w : World) (h : impl_rectangle.f k a0 a1 = some r) :
    Calls Try.prog 58 #[.int .i64 a0, .int .i64 a1] w fun e w' => ∃ v0_ : Value, e = .returned (.agg #[v0_]) ∧ Kd.R (Kd.int .i64) 3 w' w.heap.size (fun _ => True) v0_ r ∧ Below w.heap.size w w' := by
  unfold impl_rectangle.f at h
  have HF := Aside0.mk h
  clear h
  have hu := Try.underlying29
  go_enter Try.func58, Try.ntmps58
  go_wp2_with fail
  refine (@impl_made.calls (impl_rectangle.inst a1) 76 #[.pointer (some ⟨w.heap.size, 0, none⟩)] (enters_ Try.func76 (by kernel_rfl) rfl) k (wrap64 (a0 * a1)) 0 r _ (fun j i b hb => impl_rectangle.lit a1 j i b w.heap.size _ (by simp; omega) (by simp) hb) HF.out).mono ?_
  rintro e w2 ⟨v0, rfl, hR, hb⟩
  have hR2 := Kd.R_lower hR (show w.heap.size ≤ _ by simp; omega)
  have BK := Aside0.mk (show w2.heap[w.heap.size + 1]? = some (.cells #[.slice none 0 0] 29 (0, 0)) from blk_below (g := w.heap.size + 1) (o := .cells #[.slice none 0 0] 29 (0, 0)) (by rw [show w.heap.size + 1 = (w.alloc (.cells #[.int .i64 a1] 3)).heap.size by simp]; exact impl_rectangle.laid _ _) hb)
  have B2 := Aside0.mk (below_to (below_alloc (below_alloc (Below.refl w.heap.size w) (.cells #[.int .i64 a1] 3)) (.cells #[.slice none 0 0] 29)) hb)
  obtain ⟨Ao, co, eo⟩ := Kd.R_slice hR2
  subst eo
  have HO := Aside0.mk hR2
  have hcz : w2.cell? ⟨w.heap.size + 1, 0, none⟩ = some (.slice none 0 0) := (blk_cell BK.out 0).trans rfl
  have hfz := blk_frozen BK.out 0
  clear hR hR2 hb
  go_wp2
  refine bodyPost_ret (results_cell_row rfl _ _ (w.heap.size + 1) 29 #[.slice Ao r.length co] (0, 0) _ rfl (by (with_reducible repeat (first | refine blk_drewN ?_ _ | refine blk_drew ?_ | refine blk_alloc ?_ _)); refine blk_put (cs := #[.slice none 0 0]) ?_ 0 _ rfl; (with_reducible repeat (first | refine blk_drewN ?_ _ | refine blk_drew ?_ | refine blk_alloc ?_ _)); exact BK.out) Try.underlying29 rfl (by kernel_rfl)) rfl ?_
  exact ⟨_, by first | rfl | (simp; done), by (with_reducible repeat (first | apply Kd.R_alloc | apply Kd.R_drewN | apply Kd.R_drew)); exact Kd.R_mono (Kd.R_far (p := ⟨w.heap.size + 1, 0, none⟩) (Kd.R_types HO.out BK.out (by decide)) (fun _ hk => hk.2) (.slice Ao r.length co)) (fun _ hk => trivial), by repeat (first | (with_reducible first | exact B2.out | apply below_alloc | apply pw_below_drewN | apply below_drew1 | refine below_set ?_ (Nat.le_succ _)) | exact B2.out)⟩
open Go.Proofs.Ytldbabadbggleaa.X in
set_option maxHeartbeats 800000 in
set_option maxRecDepth 100000 in
theorem impl_sum.calls (A0 : Option Addr) (c0 : Nat) (l0 : List Int) (g : Nat) (lb : Array Value) (f : Int → Int) (w : World) (eg : ∀ args w, (callFunc g args).run Try.prog w = .ok (.enter g args) w)
    (hr0 : Kd.C (Kd.int .i64) w A0 l0.length l0) (hl : l0.length ≤ 9223372036854775806) (hp : ∀ x, x ∈ l0 → Fv Try.prog g lb #[.int .i64 x] (.int .i64 (f x)) w) :
    Calls Try.prog 77 #[.slice A0 l0.length c0, .func (.func g) #[] lb] w fun e w' => e = .returned (.int .i64 (sumF f l0)) ∧ Below w.heap.size w w' := by
  have HR0 := Aside0.mk hr0
  have HP := Aside0.mk hp
  clear hr0 hp
  go_enter Try.func77, Try.ntmps77
  go_wp2
  go_loopw [5, 10] (fun v5 v10 wr => ∃ (k : Nat) (n : Int), k ≤ l0.length ∧ v10 = .int .i64 k ∧ v5 = .int .i64 n ∧ Aside0 (sumF f l0 = sumFrom f (l0.drop k) n) ∧ Aside0 (Below w.heap.size w wr)) (fun v5 v10 _ => l0.length - (intOf v10).toNat)
  case atStart => exact ⟨0, 0, Nat.zero_le _, rfl, rfl, ⟨rfl⟩, ⟨Below.refl _ _⟩⟩
  case round =>
    obtain ⟨k, n, hk, rfl, rfl, HI, HB⟩ := hrel
    by_cases hlt : k < l0.length
    · have hdrop : l0.drop k = l0[k] :: l0.drop (k + 1) := (List.drop_eq_getElem_cons hlt)
      have hrd : rd l0 (k : Int) = l0[k] := by simp [rd, List.getD_eq_getElem?_getD, hlt]
      have hmem : l0[k] ∈ l0 := List.getElem_mem hlt
      have hfv := HP.out _ hmem
      rw [← hrd] at hfv
      have hI3 := Aside0.mk (show sumF f l0 = sumFrom f (l0.drop (k + 1)) (wrap64 (n + f (rd l0 (k : Int)))) by rw [hrd, HI.out, hdrop]; rfl)
      have HF := Aside0.mk hfv
      clear hfv hdrop hrd HI hmem
      have p1 : 0 ≤ ((k : Nat) : Int) := by omega
      have q1 : ((k : Nat) : Int) < (l0.length : Int) := by omega
      obtain ⟨ad, e1, hx⟩ := Kd.at_int (Kd.C_below HR0.out HB.out) k p1 q1
      rw [Int.toNat_natCast] at hx
      cases e1
      go_wp2_with (go_at_fn g; (with_reducible refine (Fv.calls HF.out HB.out).mono ?_); rintro e w2 ⟨rfl, hb⟩)
      go_roundw
      case rel => exact ⟨k + 1, wrap64 (n + f (rd l0 (k : Int))), by omega, by go_num, by go_num, ⟨hI3.out⟩, ⟨below_to HB.out hb⟩⟩
      case measure => simp [intOf]; omega
    · go_wp2
      go_ret
      exact ⟨by rw [HI.out, List.drop_of_length_le (by omega)]; rfl, HB.out⟩
mutual
def impl_linear.l0 : Nat → Int → List Int → List (List Int) → Int → Int → Option (List Int)
  | 0, _, _, _, _, _ => none
  | k + 1, x3, x4, x18, x19, x20 => if x20 < x19 then (if 0 ≤ x20 then (if x20 < (x18.length : Int) then (impl_linear.l1 k x3 x4 x20 x18 x19 x20 (rd_L1 x18 x20) ((rd_L1 x18 x20).length : Int) 0) else (none)) else (none)) else (some x4)
def impl_linear.l1 : Nat → Int → List Int → Int → List (List Int) → Int → Int → List Int → Int → Int → Option (List Int)
  | 0, _, _, _, _, _, _, _, _, _ => none
  | k + 1, x3, x4, x5, x18, x19, x20, x25, x26, x27 => if x27 < x26 then (if 0 ≤ x27 then (if x27 < (x25.length : Int) then (if 0 ≤ (rd x25 x27) then (if (rd x25 x27) < (x4.length : Int) then (impl_linear.l1 k x3 (x4.set ((rd x25 x27) : Int).toNat (wrap64 ((wrap64 (x3 * x5)) + x27))) x5 x18 x19 x20 x25 x26 (wrap64 (x27 + 1))) else (none)) else (none)) else (none)) else (none)) else (impl_linear.l0 k x3 x4 x18 x19 (wrap64 (x20 + 1)))
end
def impl_linear.f (k : Nat) (l0 : List (List Int)) : Option (List Int) := if 0 < (l0.length : Int) then (if 0 ≤ (wrap64 ((l0.length : Int) * ((rd_L1 l0 0).length : Int))) then (if (wrap64 ((l0.length : Int) * ((rd_L1 l0 0).length : Int)) : Int).toNat ≤ 35184372088832 then (impl_linear.l0 k ((rd_L1 l0 0).length : Int) (List.replicate (wrap64 ((l0.length : Int) * ((rd_L1 l0 0).length : Int)) : Int).toNat 0) l0 (l0.length : Int) 0) else (none)) else (none)) else (none)
theorem impl_linear.mono_l : ∀ k, (∀ y0 y1 y2 y3 y4, LeO (impl_linear.l0 k y0 y1 y2 y3 y4) (impl_linear.l0 (k + 1) y0 y1 y2 y3 y4)) ∧ (∀ y0 y1 y2 y3 y4 y5 y6 y7 y8, LeO (impl_linear.l1 k y0 y1 y2 y3 y4 y5 y6 y7 y8) (impl_linear.l1 (k + 1) y0 y1 y2 y3 y4 y5 y6 y7 y8))
  | 0 => ⟨fun _ _ _ _ _ r h => by simp [impl_linear.l0] at h, fun _ _ _ _ _ _ _ _ _ r h => by simp [impl_linear.l1] at h⟩
  | k + 1 => by
    obtain ⟨ih0, ih1⟩ := impl_linear.mono_l k
    refine ⟨?_, ?_⟩
    · intro y0 y1 y2 y3 y4
      unfold impl_linear.l0
      repeat' first
      | (with_reducible exact ih0 _ _ _ _ _)
      | (with_reducible exact ih1 _ _ _ _ _ _ _ _ _)
      | (with_reducible exact LeO.refl _)
      | (with_reducible exact LeO.none _)
      | (with_reducible refine LeO.ite ?_ ?_)
      | (with_reducible refine LeO.bind ?_ (fun _ => ?_))
      | exact ih0 _ _ _ _ _
      | exact ih1 _ _ _ _ _ _ _ _ _
      | exact LeO.none _
      | refine LeO.ite ?_ ?_
      | refine LeO.bind ?_ (fun _ => ?_)
    · intro y0 y1 y2 y3 y4 y5 y6 y7 y8
      unfold impl_linear.l1
      repeat' first
      | (with_reducible exact ih0 _ _ _ _ _)
      | (with_reducible exact ih1 _ _ _ _ _ _ _ _ _)
      | (with_reducible exact LeO.refl _)
      | (with_reducible exact LeO.none _)
      | (with_reducible refine LeO.ite ?_ ?_)
      | (with_reducible refine LeO.bind ?_ (fun _ => ?_))
      | exact ih0 _ _ _ _ _
      | exact ih1 _ _ _ _ _ _ _ _ _
      | exact LeO.none _
      | refine LeO.ite ?_ ?_
      | refine LeO.bind ?_ (fun _ => ?_)
theorem impl_linear.mono : ∀ a0 k, LeO (impl_linear.f k a0) (impl_linear.f (k + 1) a0) := by
  intro a0 k
  obtain ⟨ih0, ih1⟩ := impl_linear.mono_l k
  unfold impl_linear.f
  repeat' first
      | (with_reducible exact ih0 _ _ _ _ _)
      | (with_reducible exact ih1 _ _ _ _ _ _ _ _ _)
      | (with_reducible exact LeO.refl _)
      | (with_reducible exact LeO.none _)
      | (with_reducible refine LeO.ite ?_ ?_)
      | (with_reducible refine LeO.bind ?_ (fun _ => ?_))
      | exact ih0 _ _ _ _ _
      | exact ih1 _ _ _ _ _ _ _ _ _
      | exact LeO.none _
      | refine LeO.ite ?_ ?_
      | refine LeO.bind ?_ (fun _ => ?_)
set_option maxHeartbeats 8000000 in
set_option maxRecDepth 100000 in
theorem impl_linear.calls (k : Nat) (A0 : Option Addr) (c0 : Nat) (l0 : List (List Int)) (r : List Int) (w : World) (hr0 : Kd.C (Kd.slice 3 (Kd.int .i64)) w A0 l0.length l0) (hc0 : l0.length ≤ c0) (h : impl_linear.f k l0 = some r) :
    Calls Try.prog 94 #[.slice A0 l0.length c0] w fun e w' => ∃ v0_ : Value, e = .returned (v0_) ∧ Kd.R (Kd.int .i64) 3 w' w.heap.size (fun _ => True) v0_ r ∧ Below w.heap.size w w' := by
  have HR0 := Aside0.mk hr0
  have HC0 := Aside0.mk hc0
  clear hr0 hc0
  have HB := Aside0.mk (Below.refl w.heap.size w)
  have H : (if 0 < (l0.length : Int) then (if 0 ≤ (wrap64 ((l0.length : Int) * ((rd_L1 l0 0).length : Int))) then (if (wrap64 ((l0.length : Int) * ((rd_L1 l0 0).length : Int)) : Int).toNat ≤ 35184372088832 then (impl_linear.l0 k ((rd_L1 l0 0).length : Int) (List.replicate (wrap64 ((l0.length : Int) * ((rd_L1 l0 0).length : Int)) : Int).toNat 0) l0 (l0.length : Int) 0) else (none)) else (none)) else (none)) = some r := h
  clear h
  by_cases c2 : 0 < (l0.length : Int)
  · rw [if_pos c2] at H
    have c2b0 : decide (0 < (l0.length : Int)) = true := decide_eq_true c2
    have c2b1 : decide (0 < l0.length) = true := decide_eq_true (by omega)
    clear c2
    obtain ⟨ji3, hji3⟩ : ∃ j_ : Int, (wrap64 ((l0.length : Int) * ((rd_L1 l0 0).length : Int))) = j_ := ⟨_, rfl⟩
    replace H : (if 0 ≤ (ji3) then (if (ji3 : Int).toNat ≤ 35184372088832 then (impl_linear.l0 k ((rd_L1 l0 0).length : Int) (List.replicate (ji3 : Int).toNat 0) l0 (l0.length : Int) 0) else (none)) else (none)) = some r := by first | (rw [hji3] at H; exact H) | (simp only [hji3] at H ⊢; exact H)
    have hji3w : (IntKind.i64.wrap ((l0.length : Int) * ((rd_L1 l0 0).length : Int))) = ji3 := (i64_w _).trans hji3
    by_cases c4 : 0 ≤ (ji3)
    · rw [if_pos c4] at H
      have c4b0 := eq_true c4
      have c4b1 : decide (0 ≤ (ji3)) = true := decide_eq_true c4
      clear c4
      by_cases c5 : (ji3 : Int).toNat ≤ 35184372088832
      · rw [if_pos c5] at H
        have c5b0 := eq_true c5
        have c5b1 : decide ((ji3 : Int).toNat ≤ 35184372088832) = true := decide_eq_true c5
        clear c5
        obtain ⟨y183, hy183⟩ : ∃ y_ : List Int, y_ = (List.replicate (ji3 : Int).toNat 0) := ⟨_, rfl⟩
        replace H : (impl_linear.l0 k ((rd_L1 l0 0).length : Int) y183 l0 (l0.length : Int) 0) = some r := by first | (rw [hy183]; with_reducible exact H) | (have H2_ := (Option.bind_some _ _).symm.trans H; rw [hy183]; with_reducible exact H2_) | (have H2_ := (Option.bind_some _ _).symm.trans H; with_reducible exact H2_) | with_reducible exact H | (rw [hy183]; exact H) | exact H
        have Ny183 := Aside0.mk hy183
        clear hy183
        have H' := Aside0.mk H
        clear H
        have p182 : 0 ≤ (0 : Int) := (by omega)
        have q182 : 0 < (l0.length : Int) := of_decide_eq_true (by first | (with_reducible assumption) | assumption)
        obtain ⟨ad182, A182_0, c182_0, e182, hx182_0, hl182_0, hi182_0⟩ := at_L1 HR0.out 0 p182 q182
        cases e182
        have qi182 : (0 < l0.length) = True := eq_true (by omega)
        (try rw [show ((0 : Int)).toNat = 0 from rfl] at hx182_0)
        (try rw [Addr.add_zero'] at hx182_0)
        have HR182_0 := Aside0.mk hi182_0
        have HC182_0 := Aside0.mk hl182_0
        clear hi182_0 hl182_0
        replace p182 := eq_true p182
        replace q182 := eq_true q182
        go_enter Try.func94, Try.ntmps94
        go_wp2_with (first | ((with_reducible refine gate_dst (N := 17) rfl ?_); refine Kd.R_make (Kd.int .i64) _ 3 rfl (N := 17) rfl 22 _ _ rfl ji3 rfl rfl Try.underlying22 (.int .i64 0) 8 info3 rfl (by decide) (by omega) 0 (ok := fun _ => True) (okp := fun _ => True) rfl (fun _ hk => hk) trivial (of_decide_eq_true (by first | (with_reducible assumption) | assumption)) (Nat.le_trans (Nat.mul_le_mul_right _ (of_decide_eq_true (by first | (with_reducible assumption) | assumption) : ji3.toNat ≤ 35184372088832)) (by omega)) (Below.refl _ _) (Nat.le_refl _) ?_; intro v184 w6 ho7 hb hg_ hnew_; clear hg_ hnew_; (first | rw [← Ny183.out] at ho7 | (simp only [Int.reduceToNat] at ho7; rw [← Ny183.out] at ho7)); have n0_ := Aside0.mk (Kd.R_lower ho7 (below_size (by repeat (first | (with_reducible first | exact HB.out | apply below_alloc | apply pw_below_drewN | apply below_drew1) | exact HB.out)))); have n1_ := Aside0.mk (below_step (by repeat (first | (with_reducible first | exact HB.out | apply below_alloc | apply pw_below_drewN | apply below_drew1) | exact HB.out)) hb); clear HB; have HO185 := n0_; have HB := n1_; clear n0_ n1_; clear hb ho7))
        go_loopg [20] k (fun kq v20 w' => ∃ (x4_1 : List Int) (x20_1 : Int), v20 = .int .i64 x20_1 ∧ Aside0 (impl_linear.l0 kq ((rd_L1 l0 0).length : Int) x4_1 l0 (l0.length : Int) x20_1 = some r) ∧ Aside0 (kq ≤ k) ∧ Aside0 (Kd.R (Kd.int .i64) 3 w' w.heap.size (fun _ => True) v184 x4_1) ∧ Aside0 (Below w.heap.size w w'))
        case atStart => exact ⟨(y183), (0), (by first | rfl | (simp; done) | (simp [*]; done)), H', ⟨Nat.le_refl _⟩, ⟨by (with_reducible repeat (first | apply Kd.R_alloc | apply Kd.R_drewN | apply Kd.R_drew)); exact HO185.out⟩, ⟨by repeat (first | (with_reducible first | exact HB.out | apply below_alloc | apply pw_below_drewN | apply below_drew1) | exact HB.out)⟩⟩
        case round =>
          clear H'
          try clear c1
          try clear p1
          try clear q1
          try clear hx1
          try clear qi1
          try clear c2
          try clear c2b0
          try clear c2b1
          try clear p2
          try clear c4
          try clear c4b0
          try clear c4b1
          try clear c5
          try clear c5b0
          try clear c5b1
          try clear p6
          try clear hx182_0
          try clear p182
          try clear q182
          obtain ⟨x4_1, x20_1, rfl, HA, HK1, HO_4, HB⟩ := hrel
          cases gk with
          | zero => exact absurd HA.out (by simp [impl_linear.l0])
          | succ k1 =>
            have H := HA.out
            clear HA
            simp only [impl_linear.l0] at H
            by_cases c8 : x20_1 < (l0.length : Int)
            · rw [if_pos c8] at H
              have c8b0 : decide (x20_1 < (l0.length : Int)) = true := decide_eq_true c8
              clear c8
              by_cases c9 : 0 ≤ x20_1
              · rw [if_pos c9] at H
                have c9b0 : decide (0 ≤ x20_1) = true := decide_eq_true c9
                clear c9
                by_cases c10 : x20_1 < (l0.length : Int)
                · rw [if_pos c10] at H
                  have c10b0 : decide (x20_1 < (l0.length : Int)) = true := decide_eq_true c10
                  clear c10
                  have H' := Aside0.mk H
                  clear H
                  have p186 : 0 ≤ (x20_1 : Int) := of_decide_eq_true (by first | (with_reducible assumption) | assumption)
                  have q186 : x20_1 < (l0.length : Int) := of_decide_eq_true (by first | (with_reducible assumption) | assumption)
                  obtain ⟨ad186, A186_0, c186_0, e186, hx186_0, hl186_0, hi186_0⟩ := at_L1 HR0.out x20_1 p186 q186
                  obtain rfl : ad182 = ad186 := (by injection e186)
                  replace hx186_0 := (HB.out.cell (World.block_lt_of_cell? w _ hx186_0)).trans hx186_0
                  have HR186_0 := Aside0.mk hi186_0
                  have HC186_0 := Aside0.mk hl186_0
                  clear hi186_0 hl186_0
                  replace p186 := eq_true p186
                  replace q186 := eq_true q186
                  go_wp2
                  go_loopg [27] k1 (fun kq v27 w' => ∃ (x4_2 : List Int) (x27_2 : Int), v27 = .int .i64 x27_2 ∧ Aside0 (impl_linear.l1 kq ((rd_L1 l0 0).length : Int) x4_2 x20_1 l0 (l0.length : Int) x20_1 (rd_L1 l0 x20_1) ((rd_L1 l0 x20_1).length : Int) x27_2 = some r) ∧ Aside0 (kq ≤ k1) ∧ Aside0 (Kd.R (Kd.int .i64) 3 w' w.heap.size (fun _ => True) v184 x4_2) ∧ Aside0 (Below w.heap.size w w'))
                  case atStart => exact ⟨(x4_1), (0), (by first | rfl | (simp; done) | (simp [*]; done)), H', ⟨Nat.le_refl _⟩, ⟨by (with_reducible repeat (first | apply Kd.R_alloc | apply Kd.R_drewN | apply Kd.R_drew)); exact HO_4.out⟩, ⟨by repeat (first | (with_reducible first | exact HB.out | apply below_alloc | apply pw_below_drewN | apply below_drew1) | exact HB.out)⟩⟩
                  case round =>
                    clear H'
                    try clear c1
                    try clear p1
                    try clear q1
                    try clear hx1
                    try clear qi1
                    try clear c2
                    try clear c2b0
                    try clear c2b1
                    try clear p2
                    try clear c4
                    try clear c4b0
                    try clear c4b1
                    try clear c5
                    try clear c5b0
                    try clear c5b1
                    try clear p6
                    try clear c8
                    try clear c8b0
                    try clear c9
                    try clear c9b0
                    try clear c10
                    try clear c10b0
                    try clear hx182_0
                    try clear hx186_0
                    try clear p1
                    try clear p182
                    try clear p186
                    try clear p2
                    try clear p6
                    try clear q1
                    try clear q182
                    try clear q186
                    obtain ⟨x4_2, x27_2, rfl, HA, HK2, HO_4, HB⟩ := hrel
                    cases gk with
                    | zero => exact absurd HA.out (by simp [impl_linear.l1])
                    | succ k2 =>
                      have H := HA.out
                      clear HA
                      simp only [impl_linear.l1] at H
                      by_cases c11 : x27_2 < ((rd_L1 l0 x20_1).length : Int)
                      · rw [if_pos c11] at H
                        have c11b0 : decide (x27_2 < ((rd_L1 l0 x20_1).length : Int)) = true := decide_eq_true c11
                        clear c11
                        by_cases c12 : 0 ≤ x27_2
                        · rw [if_pos c12] at H
                          have c12b0 : decide (0 ≤ x27_2) = true := decide_eq_true c12
                          clear c12
                          by_cases c13 : x27_2 < ((rd_L1 l0 x20_1).length : Int)
                          · rw [if_pos c13] at H
                            have c13b0 : decide (x27_2 < ((rd_L1 l0 x20_1).length : Int)) = true := decide_eq_true c13
                            clear c13
                            by_cases c14 : 0 ≤ (rd (rd_L1 l0 x20_1) x27_2)
                            · rw [if_pos c14] at H
                              have c14b0 : decide (0 ≤ (rd (rd_L1 l0 x20_1) x27_2)) = true := decide_eq_true c14
                              clear c14
                              by_cases c15 : (rd (rd_L1 l0 x20_1) x27_2) < (x4_2.length : Int)
                              · rw [if_pos c15] at H
                                have c15b0 : decide ((rd (rd_L1 l0 x20_1) x27_2) < (x4_2.length : Int)) = true := decide_eq_true c15
                                clear c15
                                obtain ⟨y188, hy188⟩ : ∃ y_ : List Int, y_ = (x4_2.set ((rd (rd_L1 l0 x20_1) x27_2) : Int).toNat (wrap64 ((wrap64 (((rd_L1 l0 0).length : Int) * x20_1)) + x27_2))) := ⟨_, rfl⟩
                                replace H : (impl_linear.l1 k2 ((rd_L1 l0 0).length : Int) y188 x20_1 l0 (l0.length : Int) x20_1 (rd_L1 l0 x20_1) ((rd_L1 l0 x20_1).length : Int) (wrap64 (x27_2 + 1))) = some r := by first | (rw [hy188]; with_reducible exact H) | (have H2_ := (Option.bind_some _ _).symm.trans H; rw [hy188]; with_reducible exact H2_) | (have H2_ := (Option.bind_some _ _).symm.trans H; with_reducible exact H2_) | with_reducible exact H | (rw [hy188]; exact H) | exact H
                                have Ny188 := Aside0.mk hy188
                                clear hy188
                                have H' := Aside0.mk H
                                clear H
                                have p187 : 0 ≤ (x27_2 : Int) := of_decide_eq_true (by first | (with_reducible assumption) | assumption)
                                have q187 : x27_2 < ((rd_L1 l0 x20_1).length : Int) := of_decide_eq_true (by first | (with_reducible assumption) | assumption)
                                obtain ⟨ad187, e187, hx187_0⟩ := Kd.at_int HR186_0.out x27_2 p187 q187
                                cases e187
                                replace hx187_0 := (HB.out.cell (World.block_lt_of_cell? w _ hx187_0)).trans hx187_0
                                replace p187 := eq_true p187
                                replace q187 := eq_true q187
                                have p16 : 0 ≤ ((rd (rd_L1 l0 x20_1) x27_2) : Int) := of_decide_eq_true (by first | (with_reducible assumption) | assumption)
                                have q16 : ((rd (rd_L1 l0 x20_1) x27_2) : Int) < ((x4_2.length : Int) : Int) := of_decide_eq_true (by first | (with_reducible assumption) | assumption)
                                obtain ⟨go16, co16, eo16, gb16, gl16, cl16, HG16⟩ := Kd.R_form HO_4.out (by omega)
                                (first | cases eo16 | (injection eo16 with ea_ en_ ec_; (first | subst ea_ | (injection ea_ with ea_; subst ea_)); subst ec_; clear en_))
                                have GB16 := Aside0.mk gb16
                                have GG16 := Aside0.mk HG16
                                clear gb16 gl16 HG16
                                obtain ⟨hx16_0, hf16_0⟩ := Kd.R_celln 0 HO_4.out ((rd (rd_L1 l0 x20_1) x27_2) : Int) p16 q16
                                replace p16 := eq_true p16
                                replace q16 := eq_true q16
                                have HP17 := Kd.R_putg HO_4.out ((rd (rd_L1 l0 x20_1) x27_2) : Int) (wrap64 ((wrap64 (((rd_L1 l0 0).length : Int) * x20_1)) + x27_2))
                                go_wp2_with (first | ((with_reducible refine gate_store (t := 3) (p := 39) rfl ?_); refine store_event (t := 3) (p := 39) (v := ?vo_w18) (w1 := (wr.setCell ⟨go16, ((rd (rd_L1 l0 x20_1) x27_2) : Int).toNat, none⟩ (.int .i64 (wrap64 ((wrap64 (((rd_L1 l0 0).length : Int) * x20_1)) + x27_2))))) ?hg ?ho ?hn ?hr ?_; (case ho => rfl); (case hg => rfl); (case hn => rfl); (case hr => first | (go_simp; done) | (go_simp; rfl)); intro w18 hw; have hg : wr.grownBy w18 (some go16) := (by rw [hw]; exact HP17.2); have hp_ : Kd.R (Kd.int .i64) 3 w18 w.heap.size (fun _ => True) (.slice (some ⟨go16, 0, none⟩) x4_2.length co16) y188 := (by rw [hw, Ny188.out]; exact HP17.1); clear HP17; have n0_ := Aside0.mk (hp_); have n1_ := Aside0.mk ((by rw [hw]; exact below_set (HB.out) GB16.out : Below w.heap.size w w18)); clear HO_4; clear HB; have HO_4 := n0_; have HB := n1_; clear n0_ n1_; clear hg hw hp_))
                                go_roundg k2
                                case measure => have := HK1.out; have := HK2.out; omega
                                case rel => exact ⟨(y188), (wrap64 (x27_2 + 1)), (by first | rfl | (simp; done) | (simp [*]; done)), H', ⟨by have := HK1.out; have := HK2.out; omega⟩, ⟨by (with_reducible repeat (first | apply Kd.R_alloc | apply Kd.R_drewN | apply Kd.R_drew)); exact HO_4.out⟩, ⟨by repeat (first | (with_reducible first | exact HB.out | apply below_alloc | apply pw_below_drewN | apply below_drew1) | exact HB.out)⟩⟩
                              · rw [if_neg c15] at H
                                exact absurd H (by simp)
                            · rw [if_neg c14] at H
                              exact absurd H (by simp)
                          · rw [if_neg c13] at H
                            exact absurd H (by simp)
                        · rw [if_neg c12] at H
                          exact absurd H (by simp)
                      · rw [if_neg c11] at H
                        have c11b0 : decide (x27_2 < ((rd_L1 l0 x20_1).length : Int)) = false := decide_eq_false c11
                        clear c11
                        have H' := Aside0.mk H
                        clear H
                        go_wp2
                        go_roundg k2
                        case measure => have := HK1.out; have := HK2.out; omega
                        case rel => exact ⟨(x4_2), (wrap64 (x20_1 + 1)), (by first | rfl | (simp; done) | (simp [*]; done)), H', ⟨by have := HK1.out; have := HK2.out; omega⟩, ⟨by (with_reducible repeat (first | apply Kd.R_alloc | apply Kd.R_drewN | apply Kd.R_drew)); exact HO_4.out⟩, ⟨by repeat (first | (with_reducible first | exact HB.out | apply below_alloc | apply pw_below_drewN | apply below_drew1) | exact HB.out)⟩⟩
                · rw [if_neg c10] at H
                  exact absurd H (by simp)
              · rw [if_neg c9] at H
                exact absurd H (by simp)
            · rw [if_neg c8] at H
              have c8b0 : decide (x20_1 < (l0.length : Int)) = false := decide_eq_false c8
              clear c8
              obtain rfl := Option.some.inj H
              go_wp2
              go_ret
              exact ⟨_, by first | rfl | (simp [errW_none, errW_some] <;> rfl) | (simp only [← hji3]; first | rfl | (simp [errW_none, errW_some] <;> rfl)) | (simp [*, errW_none, errW_some] <;> rfl), by (with_reducible repeat (first | apply Kd.R_alloc | apply Kd.R_drewN | apply Kd.R_drew)); exact HO_4.out, by repeat (first | (with_reducible first | exact HB.out | apply below_alloc | apply pw_below_drewN | apply below_drew1) | exact HB.out)⟩
      · rw [if_neg c5] at H
        exact absurd H (by simp)
    · rw [if_neg c4] at H
      exact absurd H (by simp)
  · rw [if_neg c2] at H
    exact absurd H (by simp)
end Go.Proofs.Ytldbabadbggleaa.L
end
