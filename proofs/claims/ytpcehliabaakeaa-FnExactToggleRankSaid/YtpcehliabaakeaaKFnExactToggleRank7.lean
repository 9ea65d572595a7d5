/- Laws about the given program: the law FnExactToggleRank answers true for every input that its row lets in; no condition is added to the given statement. Contracts of the Go functions that it reaches, and the plain proof over lists. -/
import Derived.Below
import Derived.ChangeOld
import Derived.Lib.SmallJoins
import Derived.OpenShut
import Derived.ProofKit
import Derived.ShutString
import Derived.SizedLaws
import Derived.Test.YtpcehliabaakeaaRows
import Derived.WalkKit
import Derived.Test.YtpcehliabaakeaaWFnExactToggleRank0
import Derived.Test.YtpcehliabaakeaaKFnExactToggleRank0
import Derived.Test.YtpcehliabaakeaaKFnExactToggleRank1
import Derived.Test.YtpcehliabaakeaaKFnExactToggleRank2
import Derived.Test.YtpcehliabaakeaaKFnExactToggleRank3
import Derived.Test.YtpcehliabaakeaaKFnExactToggleRank4
import Derived.Test.YtpcehliabaakeaaKFnExactToggleRank5
import Derived.Test.YtpcehliabaakeaaKFnExactToggleRank6
section
namespace Go.Proofs.Ytpcehliabaakeaa.L
open Go.RowKit Go.Proofs.YtpcehliabaakeaaW.PrintWords Go.Proofs.YtpcehliabaakeaaW.PrintLast Go.Proofs.YtpcehliabaakeaaW.PrintMore
attribute [local go_sem] max2_int min2_int max_two min_two max_three min_three max_four min_four
set_option linter.unusedVariables false
set_option linter.unusedSimpArgs false
def impl_Poset_row.f (k : Nat) (l0_0 : List Int) (a1 : Int) : Option (Int) := (impl_Poset_all.f l0_0).bind fun t961 => ((impl_Poset_bottom.f k l0_0 (Go.bits .andNot .i64 t961 a1)).bind fun t962 => ((impl_Poset_close.f k l0_0 t962).bind fun t963 => (some t963)))
theorem impl_Poset_row.mono : ∀ a0 a1 k, LeO (impl_Poset_row.f k a0 a1) (impl_Poset_row.f (k + 1) a0 a1) := by
  intro a0 a1 k
  unfold impl_Poset_row.f
  repeat' first
      | (with_reducible exact impl_Poset_bottom.mono _ _ _)
      | (with_reducible exact impl_Poset_close.mono _ _ _)
      | (with_reducible exact LeO.refl _)
      | (with_reducible exact LeO.none _)
      | (with_reducible refine LeO.ite ?_ ?_)
      | (with_reducible refine LeO.bind ?_ (fun _ => ?_))
      | exact impl_Poset_bottom.mono _ _ _
      | exact impl_Poset_close.mono _ _ _
      | exact LeO.none _
      | refine LeO.ite ?_ ?_
      | refine LeO.bind ?_ (fun _ => ?_)
def impl_Poset_row.T1 : Bool × List (List Nat × List Nat) := (true, [([], []), ([], []), ([], []), ([2], [2]), ([], []), ([3, 4], [3, 4]), ([1, 5, 3], [1, 5]), ([0, 6, 6], [0, 6]), ([7, 7, 0, 1, 2, 3, 4, 5, 6, 7], [7])])
def impl_Poset_row.B1 : List Nat := [0, 0, 0, 4, 0, 28, 62, 127, 255]
theorem impl_Poset_row.tab1 : rtab .any (opsOf Try.f83 1) = impl_Poset_row.T1 := by kernel_rfl
theorem impl_Poset_row.bits1 : waitsOk impl_Poset_row.T1.2 impl_Poset_row.B1 = true := by kernel_rfl
set_option maxHeartbeats 8000000 in
set_option maxRecDepth 100000 in
theorem impl_Poset_row.calls (k : Nat) (A0_0 : Option Addr) (c0_0 : Nat) (l0_0 : List Int) (a1 : Int) (r : Int) (w : World) (hr0_0 : Kd.C (Kd.int .i64) w A0_0 l0_0.length l0_0) (hc0_0 : l0_0.length ≤ c0_0) (h : impl_Poset_row.f k l0_0 a1 = some r) :
    Calls Try.prog 83 #[.agg #[.slice A0_0 l0_0.length c0_0], .int .i64 a1] w fun e w' => e = .returned (.int .i64 r) ∧ Below w.heap.size w w' := by
  have hu29 := Try.underlying29
  have HR0_0 := Aside0.mk hr0_0
  have HC0_0 := Aside0.mk hc0_0
  clear hr0_0 hc0_0
  have HB := Aside0.mk (Below.refl w.heap.size w)
  have H : ((impl_Poset_all.f l0_0).bind fun t961 => ((impl_Poset_bottom.f k l0_0 (Go.bits .andNot .i64 t961 a1)).bind fun t962 => ((impl_Poset_close.f k l0_0 t962).bind fun t963 => (some t963)))) = some r := h
  clear h
  replace H := Option.bind_eq_some_iff.mp H
  obtain ⟨t961, A30, H⟩ := H
  replace H : ((impl_Poset_bottom.f k l0_0 (Go.bits .andNot .i64 t961 a1)).bind fun t962 => ((impl_Poset_close.f k l0_0 t962).bind fun t963 => (some t963))) = some r := H
  have A3 := Aside0.mk A30
  clear A30
  replace H := Option.bind_eq_some_iff.mp H
  obtain ⟨t962, A40, H⟩ := H
  replace H : ((impl_Poset_close.f k l0_0 t962).bind fun t963 => (some t963)) = some r := H
  have A4 := Aside0.mk A40
  clear A40
  replace H := Option.bind_eq_some_iff.mp H
  obtain ⟨t963, A50, H⟩ := H
  replace H : (some t963) = some r := H
  have A5 := Aside0.mk A50
  clear A50
  obtain rfl := Option.some.inj H
  go_enter Try.func83, Try.ntmps83
  try go_wp2_with (first | ((with_reducible refine gate_dst (N := 2) rfl ?_); refine box_event ?hg (N := 2) ?hd (cs := #[.slice A0_0 l0_0.length c0_0]) (t := 29) ?hr ?_; (case hd => rfl); (case hg => rfl); (case hr => first | (go_simp; done) | (go_simp; rfl)); intro gb960 hg w6 hbox hb; have n0_ := Aside0.mk (below_step (by repeat (first | (with_reducible first | exact HB.out | apply below_alloc | apply pw_below_drewN | apply below_drew1) | exact HB.out)) hb); have n1_ := Aside0.mk (hbox); have n2_ := Aside0.mk ((by rw [hg]; exact (below_size (by repeat (first | (with_reducible first | exact HB.out | apply below_alloc | apply pw_below_drewN | apply below_drew1) | exact HB.out))) : w.heap.size ≤ gb960)); have n3_ := Aside0.mk ((by rw [hg]; exact (below_size (by repeat (first | (with_reducible first | exact HB.out | apply below_alloc | apply pw_below_drewN | apply below_drew1) | exact HB.out))) : w.heap.size ≤ gb960)); clear HB; have HB := n0_; have BK960 := n1_; have GW960 := n2_; have GE960 := n3_; clear n0_ n1_ n2_ n3_; clear hb hbox hg))
  have n0_ := Aside0.mk (blk_drew BK960.out)
  have n1_ := Aside0.mk (below_drew1 HB.out)
  clear BK960
  clear HB
  have BK960 := n0_
  have HB := n1_
  clear n0_ n1_
  refine start_ (n := 9) (S := fun w' => w'.cell? ⟨gb960, 0, none⟩ = some (.slice A0_0 l0_0.length c0_0)) (ds := []) #[false, false, false, false, false, false, false, false, false] (by kernel_rfl) rfl rfl ((blk_cell BK960.out 0).trans rfl) (fun hHeld => ?_); refine with_tabW impl_Poset_row.tab1 impl_Poset_row.bits1 (fun HT_ HW_ => ?_)
  generalize w6.drew = w7 at BK960 HB hHeld ⊢
  refine pure_ (i := 4) (N := some 9) (v := ?_) (a' := ?_) #[false, false, false, false, true, false, false, false, false] rfl rfl (any_of HT_.out (by kernel_rfl)) (fun _ _ _ h => h) (Or.inl ⟨by rfl, ?_⟩) ?_ ?_
  rotate_left
  · intro w'
    go_simp
    with_reducible rfl
  rotate_left
  · simp only [Act.put, List.setIfInBounds_toArray, List.set_cons_zero, List.set_cons_succ, i64_w, i32_w]
    rfl
  refine take_ (i := 0) (N := some 5) (v := ?_) (a' := ?_) #[true, false, false, false, true, false, false, false, false] rfl rfl (take_ofW HT_.out HW_.out (by kernel_rfl)) (fun _ _ _ h => h) (Or.inl ⟨by rfl, ?_⟩) hHeld ?_ ?_
  rotate_left
  · intro w' s0
    go_simp
    with_reducible rfl
  rotate_left
  · simp only [Act.put, List.setIfInBounds_toArray, List.set_cons_zero, List.set_cons_succ, i64_w, i32_w]
    rfl
  refine take_ (i := 1) (N := some 6) (v := ?_) (a' := ?_) #[true, true, false, false, true, false, false, false, false] rfl rfl (take_ofW HT_.out HW_.out (by kernel_rfl)) (fun _ _ _ h => h) (Or.inl ⟨by rfl, ?_⟩) hHeld ?_ ?_
  rotate_left
  · intro w' s0
    go_simp
    with_reducible rfl
  rotate_left
  · simp only [Act.put, List.setIfInBounds_toArray, List.set_cons_zero, List.set_cons_succ, i64_w, i32_w]
    rfl
  refine take_ (i := 2) (N := some 7) (v := ?_) (a' := ?_) #[true, true, true, false, true, false, false, false, false] rfl rfl (take_ofW HT_.out HW_.out (by kernel_rfl)) (fun _ _ _ h => h) (Or.inl ⟨by rfl, ?_⟩) hHeld ?_ ?_
  rotate_left
  · intro w' s0
    go_simp
    with_reducible rfl
  rotate_left
  · simp only [Act.put, List.setIfInBounds_toArray, List.set_cons_zero, List.set_cons_succ, i64_w, i32_w]
    rfl
  refine one_ (i := 3) (N := some 8) #[true, true, true, true, true, false, false, false, false] rfl rfl (one_of HT_.out (by kernel_rfl)) (by decide) (fun K hK => ?_)
  refine goes_ Try.func117 (by kernel_rfl) rfl #[.agg #[.slice A0_0 l0_0.length c0_0]] (by rfl) rfl rfl (by (try simp only [List.map_toArray, List.map_cons, List.map_nil]); first | done | rfl | (simp only [List.length_drop, List.length_take]; rfl)) ?_
  with_reducible refine (impl_Poset_all.calls _ _ l0_0 t961 _ ?side1 ?side2 A3.out).mono ?_
  (case side1 => repeat (first | exact (Kd.C_below HR0_0.out HB.out) | (with_reducible refine Kd.C_alloc ?_ _) | (with_reducible refine Kd.C_drewN ?_ _) | (with_reducible refine Kd.C_drew ?_)))
  (case side2 => exact HC0_0.out)
  rintro e w8 ⟨rfl, hb⟩
  refine ⟨_, rfl, ?_⟩
  have n0_ := Aside0.mk (blk_below (g := gb960) (o := .cells #[.slice A0_0 l0_0.length c0_0] 29 (0, 0)) (by (with_reducible repeat (first | refine blk_drewN ?_ _ | refine blk_drew ?_ | refine blk_alloc ?_ _)); exact BK960.out) hb)
  have n1_ := Aside0.mk (below_step (by repeat (first | (with_reducible first | exact HB.out | apply below_alloc | apply pw_below_drewN | apply below_drew1 | refine below_set ?_ GE960.out) | exact HB.out)) hb)
  clear BK960
  clear HB
  have BK960 := n0_
  have HB := n1_
  clear n0_ n1_
  (try clear hb)
  (try clear hb2)
  (try clear hk)
  (try clear hi)
  refine hK.out _ _ ((blk_cell BK960.out 0).trans rfl) (fun hHeld => ?_)
  clear hK K
  refine norm_ (a' := ?_) ?_ ?_
  rotate_left
  · show Act.put _ (some 8) _ = _
    simp only [Act.put, List.setIfInBounds_toArray, List.set_cons_zero, List.set_cons_succ, i64_w, i32_w]
    rfl
  refine pure_ (i := 5) (N := some 10) (v := ?_) (a' := ?_) #[true, true, true, true, true, true, false, false, false] rfl rfl (any_of HT_.out (by kernel_rfl)) (fun _ _ _ h => h) (Or.inl ⟨by rfl, ?_⟩) ?_ ?_
  rotate_left
  · intro w'
    go_simp
    with_reducible rfl
  rotate_left
  · simp only [Act.put, List.setIfInBounds_toArray, List.set_cons_zero, List.set_cons_succ, i64_w, i32_w]
    rfl
  refine one_ (i := 6) (N := some 11) #[true, true, true, true, true, true, true, false, false] rfl rfl (one_of HT_.out (by kernel_rfl)) (by decide) (fun K hK => ?_)
  refine goes_ Try.func116 (by kernel_rfl) rfl #[.agg #[.slice A0_0 l0_0.length c0_0], .int .i64 (Go.bits .andNot .i64 t961 a1)] (by rfl) rfl rfl (by (try simp only [List.map_toArray, List.map_cons, List.map_nil]); first | done | rfl | (simp only [List.length_drop, List.length_take]; rfl)) ?_
  with_reducible refine (impl_Poset_bottom.calls k _ _ l0_0 (Go.bits .andNot .i64 t961 a1) t962 _ ?side1 ?side2 A4.out).mono ?_
  (case side1 => repeat (first | exact (Kd.C_below HR0_0.out HB.out) | (with_reducible refine Kd.C_alloc ?_ _) | (with_reducible refine Kd.C_drewN ?_ _) | (with_reducible refine Kd.C_drew ?_)))
  (case side2 => exact HC0_0.out)
  rintro e w9 ⟨rfl, hb⟩
  refine ⟨_, rfl, ?_⟩
  have n0_ := Aside0.mk (blk_below (g := gb960) (o := .cells #[.slice A0_0 l0_0.length c0_0] 29 (0, 0)) (by (with_reducible repeat (first | refine blk_drewN ?_ _ | refine blk_drew ?_ | refine blk_alloc ?_ _)); exact BK960.out) hb)
  have n1_ := Aside0.mk (below_step (by repeat (first | (with_reducible first | exact HB.out | apply below_alloc | apply pw_below_drewN | apply below_drew1 | refine below_set ?_ GE960.out) | exact HB.out)) hb)
  clear BK960
  clear HB
  have BK960 := n0_
  have HB := n1_
  clear n0_ n1_
  (try clear hb)
  (try clear hb2)
  (try clear hk)
  (try clear hi)
  refine hK.out _ _ ((blk_cell BK960.out 0).trans rfl) (fun hHeld => ?_)
  clear hK K
  refine norm_ (a' := ?_) ?_ ?_
  rotate_left
  · show Act.put _ (some 11) _ = _
    simp only [Act.put, List.setIfInBounds_toArray, List.set_cons_zero, List.set_cons_succ, i64_w, i32_w]
    rfl
  refine one_ (i := 7) (N := some 12) #[true, true, true, true, true, true, true, true, false] rfl rfl (one_of HT_.out (by kernel_rfl)) (by decide) (fun K hK => ?_)
  refine goes_ Try.func115 (by kernel_rfl) rfl #[.agg #[.slice A0_0 l0_0.length c0_0], .int .i64 t962] (by rfl) rfl rfl (by (try simp only [List.map_toArray, List.map_cons, List.map_nil]); first | done | rfl | (simp only [List.length_drop, List.length_take]; rfl)) ?_
  with_reducible refine (impl_Poset_close.calls k _ _ l0_0 t962 t963 _ ?side1 ?side2 A5.out).mono ?_
  (case side1 => repeat (first | exact (Kd.C_below HR0_0.out HB.out) | (with_reducible refine Kd.C_alloc ?_ _) | (with_reducible refine Kd.C_drewN ?_ _) | (with_reducible refine Kd.C_drew ?_)))
  (case side2 => exact HC0_0.out)
  rintro e w10 ⟨rfl, hb⟩
  refine ⟨_, rfl, ?_⟩
  have n0_ := Aside0.mk (blk_below (g := gb960) (o := .cells #[.slice A0_0 l0_0.length c0_0] 29 (0, 0)) (by (with_reducible repeat (first | refine blk_drewN ?_ _ | refine blk_drew ?_ | refine blk_alloc ?_ _)); exact BK960.out) hb)
  have n1_ := Aside0.mk (below_step (by repeat (first | (with_reducible first | exact HB.out | apply below_alloc | apply pw_below_drewN | apply below_drew1 | refine below_set ?_ GE960.out) | exact HB.out)) hb)
  clear BK960
  clear HB
  have BK960 := n0_
  have HB := n1_
  clear n0_ n1_
  (try clear hb)
  (try clear hb2)
  (try clear hk)
  (try clear hi)
  refine hK.out _ _ ((blk_cell BK960.out 0).trans rfl) (fun hHeld => ?_)
  clear hK K
  refine norm_ (a' := ?_) ?_ ?_
  rotate_left
  · show Act.put _ (some 12) _ = _
    simp only [Act.put, List.setIfInBounds_toArray, List.set_cons_zero, List.set_cons_succ, i64_w, i32_w]
    rfl
  refine pure_ (i := 8) (N := some 4) (v := ?_) (a' := ?_) #[true, true, true, true, true, true, true, true, true] rfl rfl (any_of HT_.out (by kernel_rfl)) (fun _ _ _ h => h) (Or.inl ⟨by rfl, ?_⟩) ?_ ?_
  rotate_left
  · intro w'
    go_simp
    with_reducible rfl
  rotate_left
  · simp only [Act.put, List.setIfInBounds_toArray, List.set_cons_zero, List.set_cons_succ, i64_w, i32_w]
    rfl
  refine done_ (done_of HT_.out (by kernel_rfl)) ?_
  try go_wp2
  go_ret
  exact ⟨by first | rfl | (simp [errW_none, errW_some] <;> rfl) | (simp [*, errW_none, errW_some] <;> rfl), by repeat (first | (with_reducible first | exact HB.out | apply below_alloc | apply pw_below_drewN | apply below_drew1 | refine below_set ?_ GE960.out) | exact HB.out)⟩
end Go.Proofs.Ytpcehliabaakeaa.L
end
section
namespace Go.Proofs.Ytpcehliabaakeaa.M
open Go.RowKit Go.Proofs.YtpcehliabaakeaaW.PrintWords Go.Proofs.YtpcehliabaakeaaW.PrintLast Go.Proofs.YtpcehliabaakeaaW.PrintMore Go.Proofs.Ytpcehliabaakeaa.L
set_option linter.unusedVariables false
def tg (p : List Nat) (s e : Nat) : Nat := if idealB p (s ^^^ 2 ^ e) = true then s ^^^ 2 ^ e else s
theorem pow_lt' {p : List Nat} {e : Nat} (h : e < p.length) : 2 ^ e < 2 ^ p.length := Nat.pow_lt_pow_right (by decide) h
theorem tg_lt {p : List Nat} {s e : Nat} (hs : s < 2 ^ p.length) (h : e < p.length) : tg p s e < 2 ^ p.length := by
  unfold tg; split
  · exact Nat.xor_lt_two_pow hs (pow_lt' h)
  · exact hs
theorem tg_id {p : List Nat} {s e : Nat} (hs : IsId p s) (h : e < p.length) : IsId p (tg p s e) := by
  unfold tg; split
  · rename_i h2; exact (idealB_iff (Nat.xor_lt_two_pow hs.1 (pow_lt' h))).mp h2
  · exact hs
theorem toggle_ev {p : List Nat} (g : Good p) {s e : Nat} (hs : s < 2 ^ p.length) (he : e < p.length) : Ev (fun k => impl_Poset_toggle.f k (toI p) (s : Int) (e : Int)) ((tg p s e : Nat) : Int) := by
  have gl := g.le
  have hx := Nat.xor_lt_two_pow hs (pow_lt' he)
  refine ev_pos (by omega) ?_
  rw [shl_one (by omega), bits_xor (g.len63 hs) (g.len63 (pow_lt' he))]
  refine Ev.bind (close_ev g hx) ?_
  unfold tg
  rw [← close_beq hx]
  refine ev_ite (fun e => ?_) (fun e => ?_)
  · rw [if_pos (by rw [beq_iff_eq]; omega)]; exact Ev.now _
  · rw [if_neg (by rw [beq_iff_eq]; omega)]; exact Ev.now _
theorem tgAt_ev {p : List Nat} (g : Good p) {s e : Nat} (hs : s < 2 ^ p.length) (he : e < p.length) : Ev (fun k => spec_tgAt.f k (toI p) (s : Int) (e : Int)) ((tg p s e : Nat) : Int) := by
  have gl := g.le
  have hx := Nat.xor_lt_two_pow hs (pow_lt' he)
  refine ev_pos (by omega) ?_
  rw [shl_one (by omega), bits_xor (g.len63 hs) (g.len63 (pow_lt' he))]
  refine Ev.bind (poIdeal_ev g hx) ?_
  unfold tg
  refine ev_ite (fun e => ?_) (fun e => ?_)
  · rw [if_pos e]; exact Ev.now _
  · rw [if_neg e]; exact Ev.now _
theorem toggles_l0 {p : List Nat} (g : Good p) (w : List Nat) (hw : ∀ e ∈ w, e < p.length) (hl : w.length ≤ 100000) : ∀ (d q s : Nat), q + d = w.length → s < 2 ^ p.length →
    Ev (fun k => impl_Poset_toggles.l0 k (s : Int) (toI w) ((toI w).length : Int) (q : Int) (toI p)) ((((w.drop q).foldl (tg p) s : Nat)) : Int)
  | 0, q, s, h, hs => by
    refine Ev.step (fun _ => impl_Poset_toggles.l0.eq_2 ..) (ev_neg (by rw [toI_len]; omega) ?_)
    rw [List.drop_of_length_le (by omega)]; exact Ev.now _
  | d + 1, q, s, h, hs => by
    have hq : q < w.length := by omega
    have he := hw _ (List.getElem_mem hq)
    have er : rd (toI w) (q : Int) = ((w[q] : Nat) : Int) := by rw [rd_toI]; simp [List.getD_eq_getElem?_getD, hq]
    refine Ev.step (fun _ => impl_Poset_toggles.l0.eq_2 ..) (ev_pos (by rw [toI_len]; omega) (ev_pos (by omega) (ev_pos (by rw [toI_len]; omega) ?_)))
    rw [er, List.drop_eq_getElem_cons hq, List.foldl_cons, wrap_succ (by omega)]
    exact Ev.bind (toggle_ev g hs he) (toggles_l0 g w hw hl d (q + 1) _ (by omega) (tg_lt hs he))
theorem toggles_ev {p : List Nat} (g : Good p) (w : List Nat) (hw : ∀ e ∈ w, e < p.length) (hl : w.length ≤ 100000) {s : Nat} (hs : s < 2 ^ p.length) : Ev (fun k => impl_Poset_toggles.f k (toI p) (s : Int) (toI w)) (((w.foldl (tg p) s : Nat)) : Int) := by
  have := toggles_l0 g w hw hl w.length 0 s (by omega) hs
  rwa [List.drop_zero] at this
theorem xor_bit (s e i : Nat) : (s ^^^ 2 ^ e).testBit i = (s.testBit i ^^ decide (e = i)) := by rw [Nat.testBit_xor, Nat.testBit_two_pow]
theorem xor_ne {s e i : Nat} (h : e ≠ i) : (s ^^^ 2 ^ e).testBit i = s.testBit i := by rw [xor_bit]; simp [h]
theorem xor_eq (s e : Nat) : (s ^^^ 2 ^ e).testBit e = !s.testBit e := by rw [xor_bit]; simp
def Can (p : List Nat) (s e : Nat) : Prop := (s.testBit e = true → ∀ f, s.testBit f = true → (less p f).testBit e = false) ∧ (s.testBit e = false → ∀ f, (less p e).testBit f = true → s.testBit f = true)
theorem can_iff {p : List Nat} (g : Good p) {s e : Nat} (hs : IsId p s) (he : e < p.length) : idealB p (s ^^^ 2 ^ e) = true ↔ Can p s e := by
  rw [idealB_iff (Nat.xor_lt_two_pow hs.1 (pow_lt' he))]
  constructor
  · rintro ⟨_, h⟩
    refine ⟨fun h1 f hf => ?_, fun h1 f hf => ?_⟩
    · apply Bool.eq_false_iff.mpr
      intro hc
      have b := g.bit hc
      have := h f (by rw [xor_ne (by omega)]; exact hf) e hc
      rw [xor_eq, h1] at this; cases this
    · have b := g.bit hf
      have := h e (by rw [xor_eq, h1]; rfl) f hf
      rwa [xor_ne (by omega)] at this
  · rintro ⟨h1, h2⟩
    refine ⟨Nat.xor_lt_two_pow hs.1 (pow_lt' he), fun f hf i hi => ?_⟩
    have b := g.bit hi
    by_cases c : e = f
    · subst c
      rw [xor_eq, Bool.not_eq_true'] at hf
      rw [xor_ne (by omega)]
      exact h2 hf i hi
    · rw [xor_ne c] at hf
      have hsi := hs.2 f hf i hi
      by_cases c2 : e = i
      · subst c2
        rw [h1 hsi f hf] at hi; cases hi
      · rw [xor_ne c2]; exact hsi
theorem tg_ne {p : List Nat} {s e i : Nat} (h : e ≠ i) : (tg p s e).testBit i = s.testBit i := by
  unfold tg; split
  · exact xor_ne h
  · rfl
theorem tg_eq {p : List Nat} (g : Good p) {s e : Nat} (hs : IsId p s) (he : e < p.length) : (tg p s e).testBit e = true ↔ (s.testBit e = true ∧ ∃ f, s.testBit f = true ∧ (less p f).testBit e = true) ∨ (s.testBit e = false ∧ ∀ f, (less p e).testBit f = true → s.testBit f = true) := by
  have hc := can_iff g hs he
  unfold tg
  cases hb : s.testBit e
  · by_cases c : idealB p (s ^^^ 2 ^ e) = true
    · rw [if_pos c, xor_eq, hb]
      exact ⟨fun _ => .inr ⟨rfl, (hc.mp c).2 hb⟩, fun _ => rfl⟩
    · rw [if_neg c, hb]
      refine ⟨fun h => (by cases h), fun h => ?_⟩
      rcases h with h | h
      · cases h.1
      · exact absurd (hc.mpr ⟨fun h1 => (by rw [hb] at h1; cases h1), fun _ => h.2⟩) c
  · by_cases c : idealB p (s ^^^ 2 ^ e) = true
    · rw [if_pos c, xor_eq, hb]
      refine ⟨fun h => (by cases h), fun h => ?_⟩
      rcases h with ⟨_, f, hf, hl⟩ | h
      · rw [(hc.mp c).1 hb f hf] at hl; cases hl
      · cases h.1
    · rw [if_neg c, hb]
      refine ⟨fun _ => .inl ⟨rfl, ?_⟩, fun _ => rfl⟩
      apply Classical.byContradiction
      intro hn
      refine c (hc.mpr ⟨fun _ f hf => ?_, fun h => by rw [hb] at h; cases h⟩)
      apply Bool.eq_false_iff.mpr
      intro hl
      exact hn ⟨f, hf, hl⟩
def bot (p : List Nat) (u : Nat) : Nat := foldBits p.length u (fun o e => if less p e &&& u = 0 then o ||| 2 ^ e else o) 0
theorem and_zero {a b : Nat} : a &&& b = 0 ↔ ∀ i, a.testBit i = true → b.testBit i = false := by
  constructor
  · intro h i hi
    have : (a &&& b).testBit i = false := by rw [h, Nat.zero_testBit]
    rw [Nat.testBit_and, hi, Bool.true_and] at this; exact this
  · intro h
    apply Nat.eq_of_testBit_eq
    intro i
    rw [Nat.testBit_and, Nat.zero_testBit]
    cases ha : a.testBit i
    · rfl
    · rw [h i ha]; rfl
theorem foldPut_bit (c : Nat → Prop) [DecidablePred c] (u a i : Nat) : ∀ n, (foldBits n u (fun o e => if c e then o ||| 2 ^ e else o) a).testBit i = true ↔ (a.testBit i = true ∨ (i < n ∧ u.testBit i = true ∧ c i))
  | 0 => by simp [foldBits]
  | n + 1 => by
    rw [foldBits_succ]
    have ih := foldPut_bit c u a i n
    by_cases hu : u.testBit n = true
    · rw [if_pos hu]
      by_cases hc : c n
      · rw [if_pos hc, Nat.testBit_or, Bool.or_eq_true, ih, Nat.testBit_two_pow, decide_eq_true_eq]
        constructor
        · rintro ((h | ⟨h1, h2⟩) | h)
          · exact .inl h
          · exact .inr ⟨by omega, h2⟩
          · subst h; exact .inr ⟨by omega, hu, hc⟩
        · rintro (h | ⟨h1, h2⟩)
          · exact .inl (.inl h)
          · by_cases e : n = i
            · exact .inr e
            · exact .inl (.inr ⟨by omega, h2⟩)
      · rw [if_neg hc, ih]
        refine or_congr_right ⟨fun h => ⟨by omega, h.2⟩, fun h => ⟨?_, h.2⟩⟩
        have : i ≠ n := fun e => by subst e; exact hc h.2.2
        omega
    · rw [if_neg hu, ih]
      refine or_congr_right ⟨fun h => ⟨by omega, h.2⟩, fun h => ⟨?_, h.2⟩⟩
      have : i ≠ n := fun e => by subst e; exact hu h.2.1
      omega
theorem bot_bit {p : List Nat} {u : Nat} (hu : u < 2 ^ p.length) (i : Nat) : (bot p u).testBit i = true ↔ u.testBit i = true ∧ ∀ j, (less p i).testBit j = true → u.testBit j = false := by
  unfold bot
  rw [foldPut_bit (fun e => less p e &&& u = 0), Nat.zero_testBit]
  constructor
  · rintro (h | ⟨h1, h2, h3⟩)
    · cases h
    · exact ⟨h2, and_zero.mp h3⟩
  · rintro ⟨h1, h2⟩
    exact .inr ⟨bit_lt hu h1, h1, and_zero.mpr h2⟩
theorem put_lt {n : Nat} (c : Nat → Prop) [DecidablePred c] (u : Nat) : foldBits n u (fun o e => if c e then o ||| 2 ^ e else o) 0 < 2 ^ n :=
  foldBits_inv _ _ _ _ (· < 2 ^ n) (Nat.two_pow_pos _) (fun a e ha he _ => by
    split
    · exact Nat.or_lt_two_pow ha (Nat.pow_lt_pow_right (by decide) he)
    · exact ha)
theorem bot_lt {p : List Nat} (u : Nat) : bot p u < 2 ^ p.length := put_lt _ u
def row (p : List Nat) (s : Nat) : Nat := close p (bot p (sd (full p) s))
theorem co_lt {p : List Nat} (s : Nat) : sd (full p) s < 2 ^ p.length := sd_lt s (full_lt p)
theorem co_bit {p : List Nat} {s i : Nat} : (sd (full p) s).testBit i = true ↔ i < p.length ∧ s.testBit i = false := by
  rw [sd_bit, full_bit, Bool.and_eq_true, decide_eq_true_eq, Bool.not_eq_true']
theorem row_lt {p : List Nat} (g : Good p) (s : Nat) : row p s < 2 ^ p.length := close_lt g (bot_lt _)
theorem row_bit {p : List Nat} (g : Good p) {s : Nat} (hs : IsId p s) (i : Nat) : (row p s).testBit i = true ↔ ∃ e, e < p.length ∧ s.testBit e = false ∧ (∀ j, (less p e).testBit j = true → s.testBit j = true) ∧ (e = i ∨ (less p e).testBit i = true) := by
  unfold row
  rw [close_bit (bot_lt _)]
  have hb : ∀ e, (bot p (sd (full p) s)).testBit e = true ↔ e < p.length ∧ s.testBit e = false ∧ (∀ j, (less p e).testBit j = true → s.testBit j = true) := by
    intro e
    rw [bot_bit (co_lt s), co_bit, and_assoc]
    refine and_congr_right fun h1 => and_congr_right fun h2 => forall_congr' fun j => forall_congr' fun hj => ?_
    have b := g.bit hj
    rw [← Bool.not_eq_true, co_bit, not_and, Bool.not_eq_false]
    exact ⟨fun h => h (by omega), fun h _ => h⟩
  constructor
  · rintro (h | ⟨e, h, hl⟩)
    · have := (hb i).mp h
      exact ⟨i, this.1, this.2.1, this.2.2, .inl rfl⟩
    · have := (hb e).mp h
      exact ⟨e, this.1, this.2.1, this.2.2, .inr hl⟩
  · rintro ⟨e, h1, h2, h3, h4⟩
    rcases h4 with h4 | h4
    · subst h4; exact .inl ((hb e).mpr ⟨h1, h2, h3⟩)
    · exact .inr ⟨e, (hb e).mpr ⟨h1, h2, h3⟩, h4⟩
theorem row_id {p : List Nat} (g : Good p) {s : Nat} (hs : IsId p s) : IsId p (row p s) := by
  refine ⟨row_lt g s, fun e he i hi => ?_⟩
  rw [row_bit g hs] at he ⊢
  obtain ⟨f, h1, h2, h3, h4⟩ := he
  refine ⟨f, h1, h2, h3, .inr ?_⟩
  rcases h4 with h4 | h4
  · rw [h4]; exact hi
  · exact g.tr' h4 hi
structure Mid (p : List Nat) (s t : Nat) (P : Nat → Prop) (x : Nat) : Prop where
  id : IsId p x
  on : ∀ i, i < p.length → P i → x.testBit i = t.testBit i
  off : ∀ i, i < p.length → ¬ P i → x.testBit i = s.testBit i
theorem Mid.step {p : List Nat} {s t x i : Nat} {P Q : Nat → Prop} (I : Mid p s t P x) (hi : i < p.length) (hQ : ∀ k, k < p.length → (Q k ↔ P k ∨ k = i)) (h : (tg p x i).testBit i = t.testBit i) : Mid p s t Q (tg p x i) := by
  refine ⟨tg_id I.id hi, fun k hk hq => ?_, fun k hk hq => ?_⟩
  · by_cases c : i = k
    · subst c; exact h
    · rw [tg_ne c]
      rcases (hQ k hk).mp hq with h | h
      · exact I.on k hk h
      · exact absurd h.symm c
  · rw [tg_ne (fun c => hq ((hQ k hk).mpr (.inr c.symm)))]
    exact I.off k hk fun h => hq ((hQ k hk).mpr (.inl h))
theorem Mid.all {p : List Nat} {s t x : Nat} {P : Nat → Prop} (I : Mid p s t P x) (ht : t < 2 ^ p.length) (h : ∀ i, i < p.length → P i) : x = t := by
  apply Nat.eq_of_testBit_eq
  intro i
  by_cases hi : i < p.length
  · exact I.on i hi (h i hi)
  · have big : ∀ y, y < 2 ^ p.length → y.testBit i = false := fun y hy => Nat.testBit_lt_two_pow (Nat.lt_of_lt_of_le hy (Nat.pow_le_pow_right (by decide) (by omega)))
    rw [big x I.id.1, big t ht]
theorem Mid.none {p : List Nat} {s : Nat} (t : Nat) (hs : IsId p s) {P : Nat → Prop} (h : ∀ i, i < p.length → ¬ P i) : Mid p s t P s :=
  ⟨hs, fun i hi hp => absurd hp (h i hi), fun _ _ _ => rfl⟩
theorem Mid.row {p : List Nat} (g : Good p) {s x i : Nat} {P Q : Nat → Prop} (hs : IsId p s) (I : Mid p s (row p s) P x) (hi : i < p.length) (hP : ¬ P i) (up : ∀ k, (less p k).testBit i = true → P k)
    (dn : ∀ j, (less p i).testBit j = true → ¬ P j) (hQ : ∀ k, k < p.length → (Q k ↔ P k ∨ k = i)) : Mid p s (M.row p s) Q (tg p x i) := by
  refine I.step hi hQ ?_
  have xi := I.off i hi hP
  rw [Bool.eq_iff_iff, tg_eq g I.id hi, xi]
  cases hb : s.testBit i
  · constructor
    · rintro (h | ⟨_, h⟩)
      · cases h.1
      · rw [row_bit g hs]
        refine ⟨i, hi, hb, fun j hj => ?_, .inl rfl⟩
        have b := g.bit hj
        rw [← I.off j (by omega) (dn j hj)]; exact h j hj
    · intro h
      rw [row_bit g hs] at h
      obtain ⟨e, h1, h2, h3, h4⟩ := h
      refine .inr ⟨rfl, fun f hf => ?_⟩
      have b := g.bit hf
      rw [I.off f (by omega) (dn f hf)]
      rcases h4 with h4 | h4
      · rw [h4] at h3; exact h3 f hf
      · have := h3 i h4
        rw [hb] at this; cases this
  · constructor
    · rintro (⟨_, f, hf, hl⟩ | h)
      · have b := g.bit hl
        have := I.on f b.2 (up f hl)
        rw [hf] at this
        exact (row_id g hs).2 f this.symm i hl
      · cases h.1
    · intro h
      rw [row_bit g hs] at h
      obtain ⟨e, h1, h2, h3, h4⟩ := h
      rcases h4 with h4 | h4
      · subst h4; rw [hb] at h2; cases h2
      · refine .inl ⟨rfl, e, ?_, h4⟩
        rw [I.on e h1 (up e h4), row_bit g hs]
        exact ⟨e, h1, h2, h3, .inl rfl⟩
end Go.Proofs.Ytpcehliabaakeaa.M
end
section
namespace Go.Proofs.Ytpcehliabaakeaa.M
open Go.RowKit Go.Proofs.YtpcehliabaakeaaW.PrintWords Go.Proofs.YtpcehliabaakeaaW.PrintLast Go.Proofs.YtpcehliabaakeaaW.PrintMore Go.Proofs.Ytpcehliabaakeaa.L
set_option linter.unusedVariables false
def rvB (l : List Int) (s : Int) : Bool := idB l s && rgB l
theorem rvB_of {l : List Int} {s : Int} (h : rvB l s = true) : ∃ (p : List Nat) (t : Nat), l = toI p ∧ s = (t : Int) ∧ Good p ∧ IsId p t ∧ rankedB p = true := by
  unfold rvB at h
  rw [Bool.and_eq_true] at h
  obtain ⟨p, t, rfl, rfl, g, ht⟩ := idB_of h.1
  obtain ⟨p', e, _, hr⟩ := rgB_of h.2
  obtain rfl := toI_inj e
  exact ⟨p, t, rfl, rfl, g, ht, hr⟩
theorem isRankedIdeal_ev (l : List Int) (s : Int) : Ev (fun k => impl_isRankedIdeal.f k l s) (rvB l s) := by
  refine Ev.bind (isIdeal_ev l s) ?_
  unfold rvB
  refine ev_ite (fun e => ?_) (fun e => ?_)
  · rw [e, Bool.true_and]; exact Ev.bind (isRanked_ev l) (Ev.now _)
  · rw [Bool.eq_false_iff.mpr e, Bool.false_and]; exact Ev.now _
theorem rvIn_ev (l : List Int) (s : Int) : Ev (fun k => spec_rvIn.f k l s) (rvB l s) := by
  refine Ev.bind (rvGood_ev l) ?_
  unfold rvB
  rw [Bool.and_comm]
  refine ev_ite (fun e => ?_) (fun e => ?_)
  · obtain ⟨p, rfl, g, hr⟩ := rgB_of e
    unfold idB setB
    rw [e, Bool.true_and, goodB_toI g, Bool.true_and, toI_len, toNat_toI]
    refine ev_call (poSet_eq p s g.le) (ev_ite (fun e => ?_) (fun e => ?_))
    · have b := inB_iff.mp e
      have := Nat.two_pow_pos p.length
      obtain ⟨t, rfl⟩ : ∃ t : Nat, s = (t : Int) := ⟨s.toNat, by omega⟩
      rw [e, Bool.true_and, Int.toNat_natCast]
      exact Ev.bind (poIdeal_ev g (by omega)) (Ev.now _)
    · rw [Bool.eq_false_iff.mpr e, Bool.false_and]; exact Ev.now _
  · rw [Bool.eq_false_iff.mpr e, Bool.false_and]; exact Ev.now _
def mask (p : List Nat) (r : Nat) : Nat → Nat
  | 0 => 0
  | i + 1 => if hh p i = r then mask p r i ||| 2 ^ i else mask p r i
theorem mask_lt (p : List Nat) (r : Nat) : ∀ i, mask p r i < 2 ^ i
  | 0 => by simp [mask]
  | i + 1 => by
    have := mask_lt p r i
    have h2 : 2 ^ i < 2 ^ (i + 1) := Nat.pow_lt_pow_right (by decide) (by omega)
    unfold mask
    split
    · exact Nat.or_lt_two_pow (by omega) h2
    · omega
def mxs (p : List Nat) : Nat → Nat
  | 0 => 0
  | i + 1 => max (mxs p i) (hh p i + 1)
def hgh (p : List Nat) : Nat := mxs p p.length
theorem mxs_le (p : List Nat) : ∀ i, mxs p i ≤ i
  | 0 => Nat.le_refl _
  | i + 1 => by have := mxs_le p i; have := hh_le p i; unfold mxs; omega
theorem mxs_ge (p : List Nat) {e : Nat} : ∀ i, e < i → hh p e + 1 ≤ mxs p i
  | 0, h => by omega
  | i + 1, h => by
    unfold mxs
    by_cases c : e = i
    · subst c; omega
    · have := mxs_ge p i (e := e) (by omega); omega
theorem mask_zero (p : List Nat) {r : Nat} : ∀ i, mxs p i ≤ r → mask p r i = 0
  | 0, _ => rfl
  | i + 1, h => by
    unfold mxs at h
    unfold mask
    rw [if_neg (by omega)]
    exact mask_zero p i (by omega)
def rks (p : List Nat) (M i : Nat) : List Nat := (List.range M).map fun r => mask p r i
theorem rks_len (p : List Nat) (M i : Nat) : (rks p M i).length = M := by simp [rks]
theorem rks_get (p : List Nat) {M i r : Nat} (h : r < M) : (rks p M i).getD r 0 = mask p r i := by simp [rks, List.getD_eq_getElem?_getD, h]
theorem rks_set (p : List Nat) {M i : Nat} : (rks p M i).set (hh p i) (mask p (hh p i) i ||| 2 ^ i) = rks p M (i + 1) := by
  apply List.ext_getElem (by simp [rks])
  intro r h1 h2
  rw [List.getElem_set]
  simp only [rks, List.getElem_map, List.getElem_range]
  by_cases c : hh p i = r
  · rw [if_pos c, mask, if_pos c, c]
  · rw [if_neg c, mask, if_neg c]
theorem rks_grow (p : List Nat) {M i : Nat} (h : mxs p i ≤ M) : toI (rks p M i) ++ [0] = toI (rks p (M + 1) i) := by
  unfold rks
  rw [List.range_succ, List.map_append, List.map_singleton, mask_zero p i h, toI_app]; rfl
theorem ht_eq (p : List Nat) : ht p = (List.range p.length).map (hh p) := by
  apply List.ext_getElem (by simp [ht_len])
  intro i h1 h2
  rw [List.getElem_map, List.getElem_range]
  simp [hh, List.getD_eq_getElem?_getD, h1]
theorem fold_mxs (p : List Nat) : ∀ i, (List.range i).foldl (fun a e => max a (hh p e + 1)) 0 = mxs p i
  | 0 => rfl
  | i + 1 => by rw [List.range_succ, List.foldl_append, fold_mxs p i]; rfl
theorem fold_mx (l : List Nat) : ∀ a : Nat, (toI l).foldl (fun m x => mx m x) (a : Int) = ((l.foldl max a : Nat) : Int) := by
  induction l with
  | nil => intro a; rfl
  | cons x l ih => intro a; rw [List.foldl_cons, ← ih (max a x), ← mx_nat]; rfl
theorem fold_max1 (l : List Nat) : ∀ a : Nat, l.foldl max a + 1 = l.foldl (fun a x => max a (x + 1)) (a + 1) := by
  induction l with
  | nil => intro a; rfl
  | cons x l ih => intro a; rw [List.foldl_cons, List.foldl_cons, ih, show max (a + 1) (x + 1) = max a x + 1 by omega]
theorem max_ev {p : List Nat} (g : Good p) : slices_Max_int_int.f (toI (ht p)) = some (((hgh p : Nat) : Int) - 1) := by
  have gl := g.le
  have gp := g.pos
  have e1 : hgh p = (ht p).foldl (fun a x => max a (x + 1)) 0 := by rw [ht_eq, List.foldl_map, fold_mxs]; rfl
  unfold slices_Max_int_int.f
  rw [if_pos (by rw [toI_len, ht_len]; omega)]
  refine congrArg some ?_
  unfold slices_Max_int_int.g
  rw [e1]
  cases hl : ht p with
  | nil => have := ht_len p; rw [hl] at this; simp at this; omega
  | cons x t =>
    have e2 : rd (toI (x :: t)) 0 = (x : Int) := rfl
    have e3 : (toI (x :: t)).drop 1 = toI t := rfl
    rw [e2, e3, fold_mx, List.foldl_cons, show max 0 (x + 1) = x + 1 by omega, ← fold_max1]
    omega
theorem implRanks_l0 {p : List Nat} (g : Good p) : ∀ (d i : Nat), i + d = p.length → Ev (fun k => impl_Poset_ranks.l0 k (toI (rks p (hgh p) i)) (toI (ht p)) ((toI (ht p)).length : Int) (i : Int)) (toI (rks p (hgh p) p.length))
  | 0, i, h => by
    refine Ev.step (fun _ => impl_Poset_ranks.l0.eq_2 ..) (ev_neg (by rw [toI_len, ht_len]; omega) ?_)
    obtain rfl : i = p.length := by omega
    exact Ev.now _
  | d + 1, i, h => by
    have gl := g.le
    have hm := mxs_ge p (e := i) p.length (by omega)
    have hm' : hh p i < hgh p := hm
    have ei : rd (toI (ht p)) (i : Int) = ((hh p i : Nat) : Int) := rd_toI _ _
    refine Ev.step (fun _ => impl_Poset_ranks.l0.eq_2 ..) (ev_pos (by rw [toI_len, ht_len]; omega) (ev_pos (by omega) (ev_pos (by rw [toI_len, ht_len]; omega) ?_)))
    rw [ei]
    refine ev_pos (by omega) (ev_pos (by rw [toI_len, rks_len]; omega) ?_)
    have h2 : 2 ^ i < 2 ^ 63 := Nat.pow_lt_pow_right (by decide) (by omega)
    have hml := Go.Proofs.Ytpcehliabaakeaa.M.lt63 (mask_lt p (hh p i) i) (by omega)
    rw [rd_toI, rks_get p hm', shl_one (by omega), bits_or hml h2, Int.toNat_natCast, toI_set, rks_set, wrap_succ (by omega)]
    exact implRanks_l0 g d (i + 1) (by omega)
def ranks (p : List Nat) : List Nat := rks p (hgh p) p.length
theorem hgh_le {p : List Nat} (g : Good p) : 1 ≤ hgh p ∧ hgh p ≤ 10 := by
  have := mxs_le p p.length
  have := g.le
  have := g.pos
  have := mxs_ge p (e := 0) p.length (by omega)
  unfold hgh; omega
theorem implRanks_ev {p : List Nat} (g : Good p) : Ev (fun k => impl_Poset_ranks.f k (toI p)) (toI (ranks p)) := by
  have gh := hgh_le g
  refine Ev.bind (implHeights_ev g) (ev_call (max_ev g) ?_)
  rw [show ((hgh p : Nat) : Int) - 1 + 1 = ((hgh p : Nat) : Int) by omega, wrap_id (by omega) (by omega), Int.toNat_natCast]
  refine ev_pos (by omega) (ev_pos (by omega) ?_)
  have := implRanks_l0 g p.length 0 (by omega)
  have e : List.replicate (hgh p) (0 : Int) = toI (rks p (hgh p) 0) := by
    rw [show (0 : Int) = ((0 : Nat) : Int) from rfl, toI_rep]
    congr 1
    exact (List.eq_replicate_iff.mpr ⟨by simp [rks], by simp [rks, mask]⟩).symm
  rw [e]; exact this
theorem specRanks_l1 {p : List Nat} (g : Good p) (i : Nat) (hi : i < p.length) (r : List Int) (c : Ev (fun k => spec_rvRanks.l0 k (toI (rks p (mxs p (i + 1)) (i + 1))) (toI (ht p)) ((toI (ht p)).length : Int) ((i + 1 : Nat) : Int)) r) : ∀ (d M : Nat), hh p i + 1 ≤ M + d → mxs p i ≤ M → M ≤ mxs p (i + 1) →
    Ev (fun k => spec_rvRanks.l1 k (toI (rks p M i)) (i : Int) ((hh p i : Nat) : Int) (toI (ht p)) ((toI (ht p)).length : Int) (i : Int)) r
  | d, M, h, h1, h2 => by
    have gl := g.le
    have hle := hh_le p i
    have hM := mxs_le p (i + 1)
    by_cases hc : M ≤ hh p i
    · match d, h with
      | 0, h => omega
      | d + 1, h =>
        refine Ev.step (fun _ => spec_rvRanks.l1.eq_2 ..) (ev_pos (by rw [toI_len, rks_len]; omega) (ev_pos (by rw [toI_len, rks_len]; omega) ?_))
        rw [rks_grow p h1]
        exact specRanks_l1 g i hi r c d (M + 1) (by omega) (by omega) (by unfold mxs; omega)
    · refine Ev.step (fun _ => spec_rvRanks.l1.eq_2 ..) (ev_neg (by rw [toI_len, rks_len]; omega) (ev_pos (by omega) (ev_pos (by rw [toI_len, rks_len]; omega) (ev_pos (by omega) ?_))))
      have h3 : 2 ^ i < 2 ^ 63 := Nat.pow_lt_pow_right (by decide) (by omega)
      have hml := Go.Proofs.Ytpcehliabaakeaa.M.lt63 (mask_lt p (hh p i) i) (by omega)
      rw [rd_toI, rks_get p (by omega), shl_one (by omega), bits_or hml h3, Int.toNat_natCast, toI_set, rks_set, wrap_succ (by omega)]
      have e : M = mxs p (i + 1) := by
        have : mxs p (i + 1) = max (mxs p i) (hh p i + 1) := rfl
        omega
      rw [e]; exact c
theorem specRanks_l0 {p : List Nat} (g : Good p) : ∀ (d i : Nat), i + d = p.length → Ev (fun k => spec_rvRanks.l0 k (toI (rks p (mxs p i) i)) (toI (ht p)) ((toI (ht p)).length : Int) (i : Int)) (toI (ranks p))
  | 0, i, h => by
    refine Ev.step (fun _ => spec_rvRanks.l0.eq_2 ..) (ev_neg (by rw [toI_len, ht_len]; omega) ?_)
    obtain rfl : i = p.length := by omega
    exact Ev.now _
  | d + 1, i, h => by
    have gl := g.le
    have ei : rd (toI (ht p)) (i : Int) = ((hh p i : Nat) : Int) := rd_toI _ _
    refine Ev.step (fun _ => spec_rvRanks.l0.eq_2 ..) (ev_pos (by rw [toI_len, ht_len]; omega) (ev_pos (by omega) (ev_pos (by rw [toI_len, ht_len]; omega) ?_)))
    rw [ei]
    exact specRanks_l1 g i (by omega) _ (specRanks_l0 g d (i + 1) (by omega)) (hh p i + 1) _ (by omega) (Nat.le_refl _) (by show mxs p i ≤ max _ _; omega)
theorem specRanks_ev {p : List Nat} (g : Good p) : Ev (fun k => spec_rvRanks.f k (toI p)) (toI (ranks p)) :=
  Ev.bind (specHeights_ev g) (specRanks_l0 g p.length 0 (by omega))
theorem ranks_len (p : List Nat) : (ranks p).length = hgh p := rks_len p _ _
theorem ranks_get (p : List Nat) {r : Nat} (h : r < hgh p) : rd (toI (ranks p)) (r : Int) = ((mask p r p.length : Nat) : Int) := by rw [rd_toI]; exact congrArg _ (rks_get p h)
def tgS (p : List Nat) (s m : Nat) : Nat := foldBits p.length m (tg p) s
theorem tgS_lt {p : List Nat} {s m : Nat} (hs : s < 2 ^ p.length) : tgS p s m < 2 ^ p.length := foldBits_inv _ _ _ _ (· < 2 ^ p.length) hs (fun a e ha he _ => tg_lt ha he)
theorem rvAt_l0 {p : List Nat} (g : Good p) (m : Nat) : ∀ (d i s : Nat), i + d = p.length → s < 2 ^ p.length →
    Ev (fun k => spec_rvAt.l0 k (s : Int) (m : Int) (p.length : Int) (i : Int) (toI p)) ((((List.range' i d).foldl (fun s e => if m.testBit e = true then tg p s e else s) s : Nat)) : Int)
  | 0, i, s, h, hs => Ev.step (fun _ => spec_rvAt.l0.eq_2 ..) (ev_neg (by omega) (Ev.now _))
  | d + 1, i, s, h, hs => by
    have gl := g.le
    refine Ev.step (fun _ => spec_rvAt.l0.eq_2 ..) (ev_pos (by omega) (ev_call (poIn_eq (by omega)) ?_))
    rw [List.range'_succ, List.foldl_cons, wrap_succ (by omega)]
    refine ev_ite (fun e => ?_) (fun e => ?_)
    · rw [if_pos e]
      exact Ev.bind (tgAt_ev g hs (by omega)) (rvAt_l0 g m d (i + 1) _ (by omega) (tg_lt hs (by omega)))
    · rw [if_neg e]; exact rvAt_l0 g m d (i + 1) s (by omega) hs
theorem rvAt_ev {p : List Nat} (g : Good p) (m : Nat) {s : Nat} (hs : s < 2 ^ p.length) : Ev (fun k => spec_rvAt.f k (toI p) (s : Int) (m : Int)) (((tgS p s m : Nat)) : Int) := by
  unfold spec_rvAt.f
  rw [toI_len]
  have := rvAt_l0 g m p.length 0 s (by omega) hs
  rw [← List.range_eq_range'] at this; exact this
def tgR (p : List Nat) (s r : Nat) : Nat := tgS p s (mask p r p.length)
theorem toggleRanks_l0 {p : List Nat} (g : Good p) (w : List Nat) (hw : ∀ r ∈ w, r < hgh p) (hl : w.length ≤ 100000) : ∀ (d q s : Nat), q + d = w.length → s < 2 ^ p.length →
    Ev (fun k => impl_Poset_toggleRanks.l0 k (s : Int) (toI (ranks p)) (toI w) ((toI w).length : Int) (q : Int) (toI p)) ((((w.drop q).foldl (tgR p) s : Nat)) : Int)
  | 0, q, s, h, hs => by
    refine Ev.step (fun _ => impl_Poset_toggleRanks.l0.eq_2 ..) (ev_neg (by rw [toI_len]; omega) ?_)
    rw [List.drop_of_length_le (by omega)]; exact Ev.now _
  | d + 1, q, s, h, hs => by
    have gl := g.le
    have hq : q < w.length := by omega
    have hr := hw _ (List.getElem_mem hq)
    have hmk := mask_lt p w[q] p.length
    have er : rd (toI w) (q : Int) = ((w[q] : Nat) : Int) := by rw [rd_toI]; simp [List.getD_eq_getElem?_getD, hq]
    refine Ev.step (fun _ => impl_Poset_toggleRanks.l0.eq_2 ..) (ev_pos (by rw [toI_len]; omega) (ev_pos (by omega) (ev_pos (by rw [toI_len]; omega) ?_)))
    rw [er]
    refine ev_pos (by omega) (ev_pos (by rw [toI_len, ranks_len]; omega) ?_)
    rw [ranks_get p hr, List.drop_eq_getElem_cons hq, List.foldl_cons, wrap_succ (by omega)]
    refine Ev.bind (items_ev (g.len63 hmk)) ?_
    refine Ev.bind (toggles_ev g (items (mask p w[q] p.length)) (fun e he => bit_lt hmk (mem_items.mp he).2) (by have := items_len (mask p w[q] p.length); omega) hs) ?_
    rw [foldl_items_n _ _ hmk gl]
    exact toggleRanks_l0 g w hw hl d (q + 1) _ (by omega) (tgS_lt hs)
theorem toggleRanks_ev {p : List Nat} (g : Good p) (w : List Nat) (hw : ∀ r ∈ w, r < hgh p) (hl : w.length ≤ 100000) {s : Nat} (hs : s < 2 ^ p.length) : Ev (fun k => impl_Poset_toggleRanks.f k (toI p) (s : Int) (toI w)) (((w.foldl (tgR p) s : Nat)) : Int) := by
  refine Ev.bind (implRanks_ev g) ?_
  have := toggleRanks_l0 g w hw hl w.length 0 s (by omega) hs
  rwa [List.drop_zero] at this
theorem rvWord_l0 {p : List Nat} (g : Good p) (w : List Nat) (hw : ∀ r ∈ w, r < hgh p) (hl : w.length ≤ 100000) : ∀ (d q s : Nat), q + d = w.length → s < 2 ^ p.length →
    Ev (fun k => spec_rvWord.l0 k (s : Int) (toI (ranks p)) (toI w) ((toI w).length : Int) (q : Int) (toI p)) ((((w.drop q).foldl (tgR p) s : Nat)) : Int)
  | 0, q, s, h, hs => by
    refine Ev.step (fun _ => spec_rvWord.l0.eq_2 ..) (ev_neg (by rw [toI_len]; omega) ?_)
    rw [List.drop_of_length_le (by omega)]; exact Ev.now _
  | d + 1, q, s, h, hs => by
    have gl := g.le
    have hq : q < w.length := by omega
    have hr := hw _ (List.getElem_mem hq)
    have er : rd (toI w) (q : Int) = ((w[q] : Nat) : Int) := by rw [rd_toI]; simp [List.getD_eq_getElem?_getD, hq]
    refine Ev.step (fun _ => spec_rvWord.l0.eq_2 ..) (ev_pos (by rw [toI_len]; omega) (ev_pos (by omega) (ev_pos (by rw [toI_len]; omega) ?_)))
    rw [er]
    refine ev_pos (by omega) (ev_pos (by rw [toI_len, ranks_len]; omega) ?_)
    rw [ranks_get p hr, List.drop_eq_getElem_cons hq, List.foldl_cons, wrap_succ (by omega)]
    exact Ev.bind (rvAt_ev g _ hs) (rvWord_l0 g w hw hl d (q + 1) _ (by omega) (tgS_lt hs))
theorem rvWord_ev {p : List Nat} (g : Good p) (w : List Nat) (hw : ∀ r ∈ w, r < hgh p) (hl : w.length ≤ 100000) {s : Nat} (hs : s < 2 ^ p.length) : Ev (fun k => spec_rvWord.f k (toI p) (s : Int) (toI w)) (((w.foldl (tgR p) s : Nat)) : Int) := by
  refine Ev.bind (specRanks_ev g) ?_
  have := rvWord_l0 g w hw hl w.length 0 s (by omega) hs
  rwa [List.drop_zero] at this
end Go.Proofs.Ytpcehliabaakeaa.M
end
section
namespace Go.Proofs.Ytpcehliabaakeaa.M
open Go.RowKit Go.Proofs.YtpcehliabaakeaaW.PrintWords Go.Proofs.YtpcehliabaakeaaW.PrintLast Go.Proofs.YtpcehliabaakeaaW.PrintMore Go.Proofs.Ytpcehliabaakeaa.L
set_option linter.unusedVariables false
theorem toI_all {x : List Int} {n : Nat} (h : x.all (inB · 0 ((n : Int) - 1)) = true) : x = toI (x.map Int.toNat) ∧ ∀ r ∈ x.map Int.toNat, r < n := by
  rw [List.all_eq_true] at h
  constructor
  · unfold toI
    rw [List.map_map]
    exact (List.map_id x).symm.trans (List.map_congr_left fun a ha => by have := inB_iff.mp (h a ha); simp; omega)
  · intro r hr
    rw [List.mem_map] at hr
    obtain ⟨a, ha, rfl⟩ := hr
    have := inB_iff.mp (h a ha); omega
theorem any_all (x : List Int) (rk : List Int) {n : Nat} (hn : wrap64 ((rk.length : Int) - 1) = (n : Int) - 1) : x.any (impl_ToggleRanks.p rk) = !(x.all (inB · 0 ((n : Int) - 1))) := by
  rw [Bool.eq_iff_iff, Bool.not_eq_true', List.any_eq_true, List.all_eq_false]
  refine exists_congr fun e => and_congr_right fun _ => ?_
  unfold impl_ToggleRanks.p
  rw [hn, Bool.not_eq_true', ← Bool.not_eq_true]
  rfl
theorem TRs_ev (l : List Int) (s : Int) (x : List Int) (hx : x.length ≤ 1048576) : ∃ r : Int × Bool, Ev (fun k => spec_ToggleRanks.f k l s x) r ∧ Ev (fun k => impl_ToggleRanks.f k l s x) r ∧
    (rvB l s = false → r = (0, false)) ∧ (∀ p t, l = toI p → s = ((t : Nat) : Int) → Good p → IsId p t → rankedB p = true → x.length ≤ 40 → (x.all (inB · 0 ((hgh p : Int) - 1)) = false → r = (0, false)) ∧ (x.all (inB · 0 ((hgh p : Int) - 1)) = true → r = ((((x.map Int.toNat).foldl (tgR p) t : Nat) : Int), true))) := by
  by_cases h : rvB l s = true
  · obtain ⟨p, t, rfl, rfl, g, ht, hr⟩ := rvB_of h
    have gh := hgh_le g
    by_cases hc : (x.length : Int) > 40
    · exact ⟨(0, false), Ev.bind (rvIn_ev _ _) (ev_pos h (ev_pos hc (Ev.now _))), Ev.bind (isRankedIdeal_ev _ _) (ev_pos h (ev_pos hc (Ev.now _))), fun _ => rfl, fun p' t' _ _ _ _ _ hl => by omega⟩
    · have hn : wrap64 (((toI (ranks p)).length : Int) - 1) = ((hgh p : Nat) : Int) - 1 := by rw [toI_len, ranks_len, wrap_id (by omega) (by omega)]
      by_cases ha : x.all (inB · 0 ((hgh p : Int) - 1)) = true
      · obtain ⟨e, hw⟩ := toI_all ha
        have hwl : (x.map Int.toNat).length ≤ 100000 := by rw [List.length_map]; omega
        refine ⟨((((x.map Int.toNat).foldl (tgR p) t : Nat) : Int), true), ?_, ?_, fun h2 => (by rw [h] at h2; cases h2), fun p' t' e1 e2 _ _ _ _ => ?_⟩
        · refine Ev.bind (rvIn_ev _ _) (ev_pos h (ev_neg hc (Ev.bind (specRanks_ev g) ?_)))
          rw [hn]
          refine Ev.bind (l1All_ev x _ _ (by omega)) (ev_pos ha ?_)
          have := rvWord_ev g _ hw hwl ht.1
          rw [← e] at this
          exact Ev.bind this (Ev.now _)
        · refine Ev.bind (isRankedIdeal_ev _ _) (ev_pos h (ev_neg hc (Ev.bind (implRanks_ev g) ?_)))
          rw [any_all x _ hn, ha]
          refine ev_neg (by simp) ?_
          have := toggleRanks_ev g _ hw hwl ht.1
          rw [← e] at this
          exact Ev.bind this (Ev.now _)
        · obtain rfl := toI_inj e1
          obtain rfl : t = t' := by omega
          exact ⟨fun h2 => (by rw [ha] at h2; cases h2), fun _ => rfl⟩
      · refine ⟨(0, false), ?_, ?_, fun _ => rfl, fun p' t' e1 e2 _ _ _ _ => ?_⟩
        · refine Ev.bind (rvIn_ev _ _) (ev_pos h (ev_neg hc (Ev.bind (specRanks_ev g) ?_)))
          rw [hn]
          exact Ev.bind (l1All_ev x _ _ (by omega)) (ev_neg ha (Ev.now _))
        · refine Ev.bind (isRankedIdeal_ev _ _) (ev_pos h (ev_neg hc (Ev.bind (implRanks_ev g) ?_)))
          rw [any_all x _ hn, Bool.eq_false_iff.mpr ha]
          exact ev_pos rfl (Ev.now _)
        · obtain rfl := toI_inj e1
          exact ⟨fun _ => rfl, fun h2 => absurd h2 ha⟩
  · exact ⟨(0, false), Ev.bind (rvIn_ev _ _) (ev_neg h (Ev.now _)), Ev.bind (isRankedIdeal_ev _ _) (ev_neg h (Ev.now _)), fun _ => rfl, fun p t e1 e2 g ht hr _ => absurd (by unfold rvB; rw [e1, e2, idB_mk g ht, rgB_mk g hr]; rfl) h⟩
theorem agree_FnExactToggleRank (l : List Int) (s i : Int) (hl : l.length ≤ 1048576) : ∃ r : Int × Bool, Ev (fun k => spec_ToggleRank.f k l s i) r ∧ Ev (fun k => impl_ToggleRank.f k l s i) r := by
  obtain ⟨r, _, h2, h3, h4⟩ := TRs_ev l s [i] (by simp)
  refine ⟨r, ?_, Ev.bind h2 (Ev.now _)⟩
  by_cases h : rvB l s = true
  · obtain ⟨p, t, rfl, rfl, g, ht, hr⟩ := rvB_of h
    have gh := hgh_le g
    have h5 := h4 p t rfl rfl g ht hr (by simp)
    have hn : wrap64 (((toI (ranks p)).length : Int) - 1) = ((hgh p : Nat) : Int) - 1 := by rw [toI_len, ranks_len, wrap_id (by omega) (by omega)]
    have ea : [i].all (inB · 0 ((hgh p : Int) - 1)) = inB i 0 ((hgh p : Int) - 1) := by simp
    refine Ev.bind (rvIn_ev _ _) (ev_pos h (Ev.bind (specRanks_ev g) ?_))
    rw [hn]
    refine ev_call (l1In_eq _ _ _) (ev_ite (fun e => ?_) (fun e => ?_))
    · rw [h5.2 (ea.trans e)]
      obtain ⟨e2, hw⟩ := toI_all (ea.trans e)
      have := rvWord_ev g _ hw (by simp) ht.1
      rw [← e2] at this
      exact Ev.bind this (Ev.now _)
    · rw [h5.1 (ea.trans (Bool.eq_false_iff.mpr e))]; exact Ev.now _
  · rw [h3 (Bool.eq_false_iff.mpr h)]
    exact Ev.bind (rvIn_ev _ _) (ev_neg h (Ev.now _))
end Go.Proofs.Ytpcehliabaakeaa.M
end
section
namespace Go.Proofs.Ytpcehliabaakeaa.L
open Go.RowKit Go.Proofs.YtpcehliabaakeaaW.PrintWords Go.Proofs.YtpcehliabaakeaaW.PrintLast Go.Proofs.YtpcehliabaakeaaW.PrintMore
attribute [local go_sem] max2_int min2_int max_two min_two max_three min_three max_four min_four
set_option linter.unusedVariables false
set_option linter.unusedSimpArgs false
def laws_markPoset.f (k : Nat) (l0_0 : List Int) (a1 : Int) : Option (Int × List Int) := (laws_markIntS.f k l0_0 a1).bind fun bt190 => (some (bt190.1, bt190.2))
theorem laws_markPoset.mono : ∀ a0 a1 k, LeO (laws_markPoset.f k a0 a1) (laws_markPoset.f (k + 1) a0 a1) := by
  intro a0 a1 k
  unfold laws_markPoset.f
  repeat' first
      | (with_reducible exact laws_markIntS.mono _ _ _)
      | (with_reducible exact LeO.refl _)
      | (with_reducible exact LeO.none _)
      | (with_reducible refine LeO.ite ?_ ?_)
      | (with_reducible refine LeO.bind ?_ (fun _ => ?_))
      | exact laws_markIntS.mono _ _ _
      | exact LeO.none _
      | refine LeO.ite ?_ ?_
      | refine LeO.bind ?_ (fun _ => ?_)
set_option maxHeartbeats 8000000 in
set_option maxRecDepth 100000 in
theorem laws_markPoset.calls (k : Nat) (P0_0_ : Nat → Prop) (u9000_ : Value) (l0_0 : List Int) (a1 : Int) (r1 : Int) (r2 : List Int) (w0 w : World) (hB : Below w0.heap.size w0 w) (ho0_0 : Kd.R (Kd.int .i64) 3 w w0.heap.size P0_0_ u9000_ l0_0) (h : laws_markPoset.f k l0_0 a1 = some (r1, r2)) :
    Calls Try.prog 21 #[.agg #[u9000_], .int .i64 a1] w fun e w' => e = .returned (.int .i64 r1) ∧ Kd.R (Kd.int .i64) 3 w' w0.heap.size (fun k_ => (P0_0_ k_ ∨ w.heap.size ≤ k_)) u9000_ r2 ∧ Below w0.heap.size w0 w' ∧ Kept w w' (fun k_ => P0_0_ k_) := by
  have hu29 := Try.underlying29
  have HO0_0 := Aside0.mk (show Kd.R (Kd.int .i64) 3 w w0.heap.size (fun k_ => (P0_0_ k_ ∨ w.heap.size ≤ k_)) u9000_ l0_0 from Kd.R_mono ho0_0 (fun k_ hk => (.inl hk)))
  have HK := Aside0.mk (Kept.refl w (fun k_ => P0_0_ k_))
  have HW0 := Aside0.mk hB.size
  have HB := Aside0.mk hB
  clear hB
  have H : ((laws_markIntS.f k l0_0 a1).bind fun bt190 => (some (bt190.1, bt190.2))) = some (r1, r2) := h
  clear h
  replace H := Option.bind_eq_some_iff.mp H
  obtain ⟨⟨t190, t191⟩, A30, H⟩ := H
  replace H : (some (t190, t191)) = some (r1, r2) := H
  have A3 := Aside0.mk A30
  clear A30
  simp only [Option.some.injEq, Prod.mk.injEq] at H
  obtain ⟨rfl, rfl⟩ := H
  obtain ⟨Ao4, co4, eo4⟩ := Kd.R_slice HO0_0.out
  subst eo4
  go_enter Try.func21, Try.ntmps21
  go_wp2_with (first | ((with_reducible refine gate_dst (N := 2) rfl ?_); refine box_event ?hg (N := 2) ?hd (cs := #[.slice Ao4 l0_0.length co4]) (t := 29) ?hr ?_; (case hd => rfl); (case hg => rfl); (case hr => first | (go_simp; done) | (go_simp; rfl)); intro gb189 hg w5 hbox hb; have n0_ := Aside0.mk (Kd.R_below (by (with_reducible repeat (first | apply Kd.R_alloc | apply Kd.R_drewN | apply Kd.R_drew)); exact HO0_0.out) hb); have n1_ := Aside0.mk (Kept.below (S := (fun k_ => P0_0_ k_)) (by repeat (first | (with_reducible first | exact HK.out | apply Kept.alloc | apply Kept.drewN | apply Kept.drew) | exact HK.out)) hb); have n2_ := Aside0.mk (below_step (by repeat (first | (with_reducible first | exact HB.out | apply below_alloc | apply pw_below_drewN | apply below_drew1) | exact HB.out)) hb); have n3_ := Aside0.mk (hbox); have n4_ := Aside0.mk ((by rw [hg]; exact (by first | exact HK.out.1 | exact (show Kept w _ (fun k_ => P0_0_ k_) from by repeat (first | (with_reducible first | exact HK.out | apply Kept.alloc | apply Kept.drewN | apply Kept.drew) | exact HK.out)).1) : w.heap.size ≤ gb189)); have n5_ := Aside0.mk ((by rw [hg]; exact (below_size (by repeat (first | (with_reducible first | exact HB.out | apply below_alloc | apply pw_below_drewN | apply below_drew1) | exact HB.out))) : w0.heap.size ≤ gb189)); clear HO0_0; clear HK; clear HB; have HO0_0 := n0_; have HK := n1_; have HB := n2_; have BK189 := n3_; have GW189 := n4_; have GE189 := n5_; clear n0_ n1_ n2_ n3_ n4_ n5_; clear hb hbox hg; have hcz6_0 : w5.cell? ⟨gb189, 0, none⟩ = some (.slice Ao4 l0_0.length co4) := (blk_cell BK189.out 0).trans rfl; have hfz6_0 := blk_frozen BK189.out 0) | ((with_reducible refine gate_callee (f := 28) rfl ?_); refine goesL_ (some 8) rfl rfl Try.func28 (by kernel_rfl) rfl #[.slice Ao4 l0_0.length co4, .int .i64 a1] rfl (by (try simp only [List.map_toArray, List.map_cons, List.map_nil]); first | done | rfl | (simp only [List.length_drop, List.length_take]; rfl)) ?_; (with_reducible refine (laws_markIntS.calls k (fun k_ => some k_ = (.slice Ao4 l0_0.length co4 : Value).ownBlock) (.slice Ao4 l0_0.length co4) l0_0 a1 t190 t191 w0 _ ?side1 ?side2 A3.out).mono ?_); (case side1 => repeat (first | (with_reducible first | exact HB.out | apply below_alloc | apply pw_below_drewN | apply below_drew1 | refine below_set ?_ GE189.out) | exact HB.out)); (case side2 => exact Kd.R_tight rfl HO0_0.out); rintro e w7 ⟨rfl, hy0, hb, hkp⟩; refine ⟨_, rfl, ?_⟩; have n0_ := Aside0.mk (Kd.R_reok rfl hy0 (fun k_ e_ => HO0_0.out.1 k_ e_)); have n1_ := Aside0.mk (blk_kept (by (with_reducible repeat (first | refine blk_drewN ?_ _ | refine blk_drew ?_ | refine blk_alloc ?_ _)); exact BK189.out) hkp (fun hs_ => (fun e_ => (Kd.R_ne HO0_0.out BK189.out (by decide)) e_) hs_)); have n2_ := Aside0.mk (Kept.then_ (S := (fun k_ => P0_0_ k_)) (by repeat (first | (with_reducible first | exact HK.out | apply Kept.alloc | apply Kept.drewN | apply Kept.drew | refine Kept.setCell ?_ (.inr GW189.out) _) | exact HK.out)) hkp (fun k_ hs_ => (fun e_ => (HO0_0.out.1 k_ e_.symm)) hs_)); have n3_ := Aside0.mk (hb); clear HO0_0; clear BK189; clear HK; clear HB; have HO0_0 := n0_; have BK189 := n1_; have HK := n2_; have HB := n3_; clear n0_ n1_ n2_ n3_; (try clear hb); (try clear hkp); (try clear hy0)))
  go_ret
  exact ⟨by first | rfl | (simp [errW_none, errW_some] <;> rfl) | (simp [*, errW_none, errW_some] <;> rfl), by (with_reducible repeat (first | apply Kd.R_alloc | apply Kd.R_drewN | apply Kd.R_drew)); exact HO0_0.out, by repeat (first | (with_reducible first | exact HB.out | apply below_alloc | apply pw_below_drewN | apply below_drew1 | refine below_set ?_ GE189.out) | exact HB.out), by repeat (first | (with_reducible first | exact HK.out | apply Kept.alloc | apply Kept.drewN | apply Kept.drew | refine Kept.setCell ?_ (.inr GW189.out) _) | exact HK.out)⟩
end Go.Proofs.Ytpcehliabaakeaa.L
end
section
namespace Go.Proofs.Ytpcehliabaakeaa.M
open Go.RowKit Go.Proofs.YtpcehliabaakeaaW.PrintWords Go.Proofs.YtpcehliabaakeaaW.PrintLast Go.Proofs.YtpcehliabaakeaaW.PrintMore Go.Proofs.Ytpcehliabaakeaa.L
theorem szIntS_eq (l : List Int) (h : l.length ≤ maxLen) : laws_szIntS.f l 1048576 = some (if 1048576 < l.length then -1 else 1048576 - (l.length : Int)) := by
  unfold maxLen at h
  unfold laws_szIntS.f
  rw [wrap_id (by omega) (by omega)]
  by_cases h2 : 1048576 < l.length
  · rw [if_pos (by omega), if_pos h2]
  · rw [if_neg (by omega), if_neg h2]
theorem szPoset_eq (l : List Int) (h : l.length ≤ maxLen) : laws_szPoset.f l 1048576 = some (if 1048576 < l.length then -1 else 1048576 - (l.length : Int)) := by
  unfold laws_szPoset.f
  rw [szIntS_eq l h, Option.bind_some]
  split
  · rfl
  · rw [if_neg (by omega)]
theorem toPoset_ev (l : List Int) (hl : l.length ≤ 35184372088832) : Ev (fun k => laws_toPoset.f k l) l := Ev.bind (toIntS_ev l hl) (Ev.now _)
theorem eqPoset_ev (a b : List Int) (hl : a.length ≤ 9223372036854775806) : Ev (fun k => laws_eqPoset.f k a b) (decide (a = b)) := by
  refine Ev.bind (eqIntS_ev a b hl) (ev_ite (fun e => ?_) (fun e => ?_))
  · rw [e]; exact Ev.now _
  · rw [Bool.eq_false_iff.mpr e]; exact Ev.now _
theorem eqPoset_refl (a : List Int) (hl : a.length ≤ 9223372036854775806) : Ev (fun k => laws_eqPoset.f k a a) true := by simpa using eqPoset_ev a a hl
theorem markPoset_ev (l : List Int) (q : Nat) (hl : l.length ≤ 4611686018427387903) (hq : q ≤ 4611686018427387903) : Ev (fun k => laws_markPoset.f k l (q : Int)) (((q + l.length : Nat) : Int), marks q l.length) := Ev.bind (markIntS_ev l q hl hq) (Ev.now _)
end Go.Proofs.Ytpcehliabaakeaa.M
end
section
namespace Go.Proofs.Ytpcehliabaakeaa.Pure
open Go.RowKit Go.Proofs.YtpcehliabaakeaaW.PrintWords Go.Proofs.YtpcehliabaakeaaW.PrintLast Go.Proofs.YtpcehliabaakeaaW.PrintMore Go.Proofs.Ytpcehliabaakeaa.L Go.Proofs.Ytpcehliabaakeaa.M
theorem FnExactToggleRank : laws_FnExactToggleRank.Pure2 := by
  intro l0 a1 a2 hm0 hw0 w1 w2
  refine Ev.rounds ?_
  refine ev_call (szPoset_eq l0 hm0) ?_
  by_cases b0 : 1048576 < l0.length
  · rw [if_pos b0]; exact ev_pos (by decide) (Ev.now _)
  rw [if_neg b0]
  refine ev_neg (by omega) ?_
  have T0 := toPoset_ev l0 (by omega)
  have E0 := eqPoset_refl l0 (by omega)
  have M0 := markPoset_ev l0 (1) (by omega) (by omega)
  obtain ⟨r, hs, hi⟩ := agree_FnExactToggleRank l0 a1 a2 (by omega)
  repeat' first
    | with_reducible exact Ev.now true
    | with_reducible refine Ev.bind hs ?_
    | with_reducible refine Ev.bind hi ?_
    | with_reducible refine Ev.bind T0 ?_
    | with_reducible refine Ev.bind E0 ?_
    | with_reducible refine Ev.bind M0 ?_
    | with_reducible refine Ev.step (fun _ => laws_FnExactToggleRank.j0.eq_2 ..) ?_
    | with_reducible refine ev_pos rfl ?_
    | (with_reducible refine ev_neg ?h ?_; case h => first | (simp; done) | omega | (simp only; omega) | (simp; omega))
end Go.Proofs.Ytpcehliabaakeaa.Pure
end
section
namespace Go.Proofs.Ytpcehliabaakeaa.R
open Go.ChangeShapes Go.WideShapes Go.ChangeAt Go.RowKit
open Go.ChangeMaps (open_string shut_string)
set_option linter.unusedVariables false
def IsRow (k : IntKind) (w : World) (a : Option Addr) (len cap : Nat) (zs : List Int) : Prop :=
  (a = none ∧ len = 0 ∧ cap = 0 ∧ zs = []) ∨
  ∃ x, a = some x ∧ len ≤ cap ∧ cap ≤ maxLen ∧ zs.length = cap ∧ (∀ i, i < zs.length → w.cell? (x.add i) = some (.int k (zs.getD i 0))) ∧ ∀ n ∈ zs, (Lit.int k n).wf = true
variable {H : Type} {enc : TypeId × Value → H} {P : Program} {W : World} {base : Nat} {ps : List MemPlace}
theorem row_of {t e : TypeId} {k : IntKind} {fuel : Nat} {c : Value} {y : DataW H × List MemPlace} (hu : P.underlying t = some (.slice e)) (he : P.underlying e = some (.int k)) (hc : P.cellsOf e = 1)
    (hf : DataW.trod enc P W 0 (fun _ => true) true fuel t [c] = some y) : ∃ a len cap zs, c = .slice a len cap ∧ IsRow k W a len cap zs := by
  rcases open_ints hu he hc hf with ⟨hcs, _⟩ | ⟨x, l, c', zs, hcs, _, hl, hm, hz, _, hcell, hwz⟩
  · simp only [List.cons.injEq, and_true] at hcs
    subst hcs
    exact ⟨_, _, _, [], rfl, .inl ⟨rfl, rfl, rfl, rfl⟩⟩
  · simp only [List.cons.injEq, and_true] at hcs
    subst hcs
    exact ⟨_, _, _, zs, rfl, .inr ⟨_, rfl, hl, hm, by simpa using hz, hcell, hwz⟩⟩
theorem array1 {α : Type} {cs : Array α} (h : cs.size = 1) : ∃ c0, cs = #[c0] := by
  obtain ⟨l⟩ := cs
  match l, h with
  | [c0], _ => exact ⟨c0, rfl⟩
theorem open_poset {r : Reach} {t e : TypeId} {f : Field} {v : Value} {d : DataW H} (hs : P.underlying t = some (.struct #[f])) (ho : f.offset = 0) (hC : P.cellsOf t = 1) (hfc : P.cellsOf f.type = 1) (hu : P.underlying f.type = some (.slice e)) (he : P.underlying e = some (.int .i64)) (hc : P.cellsOf e = 1)
    (hv : Value.okWide P W r base t v) (h : DataW.Trod enc P W 0 (fun _ => true) true t v d ps) : ∃ a len cap zs, v = .agg #[.slice a len cap] ∧ IsRow .i64 W a len cap zs := by
  obtain ⟨cs, rfl, hsz⟩ := okWide_struct hs hv
  obtain ⟨c0, rfl⟩ := array1 (hsz.trans hC)
  obtain ⟨fuel, hf⟩ := h
  obtain ⟨y0, n, _, _, h0⟩ := trod_struct1 hs hf
  rw [ho, hfc] at h0
  obtain ⟨a, len, cap, zs, rfl, hz⟩ := row_of hu he hc (by simpa [Value.cells] using h0)
  exact ⟨a, len, cap, zs, rfl, hz⟩
theorem open_desk {r : Reach} {t e : TypeId} {f f1 g : Field} {v : Value} {d : DataW H} (hs : P.underlying t = some (.struct #[f, f1])) (ho : f.offset = 0) (ho1 : f1.offset = 1) (hC : P.cellsOf t = 2) (hfc : P.cellsOf f.type = 1) (hfc1 : P.cellsOf f1.type = 1)
    (hs2 : P.underlying f.type = some (.struct #[g])) (hgo : g.offset = 0) (hgc : P.cellsOf g.type = 1) (hu : P.underlying g.type = some (.slice e)) (he : P.underlying e = some (.int .i64)) (hc : P.cellsOf e = 1) (hi : P.underlying f1.type = some (.int .i64))
    (hv : Value.okWide P W r base t v) (h : DataW.Trod enc P W 0 (fun _ => true) true t v d ps) : ∃ a len cap zs x, v = .agg #[.slice a len cap, .int .i64 x] ∧ IsRow .i64 W a len cap zs ∧ (Lit.int .i64 x).wf = true := by
  obtain ⟨cs, rfl, hsz⟩ := okWide_struct hs hv
  obtain ⟨c0, c1, rfl⟩ := Joins.array2 (hsz.trans hC)
  obtain ⟨fuel, hf⟩ := h
  obtain ⟨y0, y1, n, _, _, h0, h1⟩ := trod_struct2 hs hf
  rw [ho, hfc] at h0
  rw [ho1, hfc1] at h1
  obtain ⟨z0, m, _, _, h00⟩ := trod_struct1 hs2 h0
  rw [hgo, hgc] at h00
  obtain ⟨a, len, cap, zs, rfl, hz⟩ := row_of hu he hc (by simpa [Value.cells] using h00)
  obtain ⟨x, e0, e1, wx⟩ := DataW.trod_int hi h1
  simp [Value.cells] at e0
  subst e0
  exact ⟨a, len, cap, zs, x, rfl, hz, wx⟩
end Go.Proofs.Ytpcehliabaakeaa.R
end
section
namespace Go.Proofs.Ytpcehliabaakeaa.fnExactToggleRank
open Go.ChangeShapes Go.WideShapes Go.ChangeAt Go.RowKit Go.Proofs.YtpcehliabaakeaaW.PrintWords Go.Proofs.Ytpcehliabaakeaa.R
open Go.ChangeMaps (open_string shut_string)
set_option linter.unusedVariables false
theorem own : ownKnob Try.prog.godebug = none := by kernel_rfl
theorem laidOut : laidOutB Try.prog = true := by kernel_rfl
set_option maxRecDepth 100000 in
theorem lifted (os : Os) (started : os.Started) (H : Type) (enc : TypeId × Value → H) :
    ReturnsInHanded {} Try.checked os 13 .any (Rows.fnExactToggleRankSpec.pre6 enc Try.prog Try.f13 Rows.fnExactToggleRankRow.domain false) (Rows.fnExactToggleRankSpec.post enc Try.prog Try.f13 false true false false) := by
  refine returnsInHanded_of_change_sized (C := Try.checked) own started (by kernel_rfl) Try.func13
    (ChangeSpec.witness6 (enc := enc) (C := Try.checked) false ⟨#[], #[.agg #[.slice none 0 0], .int .i64 0, .int .i64 0], []⟩ 8 (by kernel_rfl) (by kernel_rfl) (by kernel_rfl) (by kernel_rfl)) ?_
  intro W base args ds gs before hval0 hW hcnd hsz0 _
  have hval : ∀ (j : Nat) t v, Try.f13.params[j]? = some t → args[j]? = some v → Value.okWide Try.prog W .any base t v := hval0
  have hW' := hW
  obtain ⟨p, q, hA0, hV, rfl, hfz, hnd⟩ := hW
  have hA : DataW.TrodAll enc Try.prog W 0 (fun _ => true) true Try.f13.params.toList args.toList ds p := hA0
  rw [Try.params13] at hA hval
  obtain ⟨v0, vs0, d0, ds0, p0, q0, hargs, rfl, rfl, h0, r0⟩ := trodAll_cons hA
  obtain ⟨v1, vs1, d1, ds1, p1, q1, rfl, rfl, rfl, h1, r1⟩ := trodAll_cons r0
  obtain ⟨v2, vs2, d2, ds2, p2, q2, rfl, rfl, rfl, h2, r2⟩ := trodAll_cons r1
  obtain ⟨rfl, rfl, rfl⟩ := trodAll_nil r2
  obtain rfl : args = #[v0, v1, v2] := by cases args; simp_all
  obtain ⟨rfl, rfl⟩ := trodVars_none hV
  have k0 := h0
  have lt0 : ∀ x ∈ p0, x.block < W.heap.size := by obtain ⟨m, hm⟩ := k0; exact DataW.trod_lt m _ _ _ hm
  obtain ⟨A0, len0, cap0, z0, rfl, w0⟩ := open_poset Try.underlying24 rfl (by kernel_rfl) (by kernel_rfl) Try.underlying22 Try.underlying3 (by kernel_rfl) (hval 0 24 v0 rfl rfl) h0
  have k1 := h1
  have lt1 : ∀ x ∈ p1, x.block < W.heap.size := by obtain ⟨m, hm⟩ := k1; exact DataW.trod_lt m _ _ _ hm
  obtain ⟨a1, rfl, rfl, rfl, w1⟩ := open_int Try.underlying3 (hval 1 3 v1 rfl rfl) h1
  have k2 := h2
  have lt2 : ∀ x ∈ p2, x.block < W.heap.size := by obtain ⟨m, hm⟩ := k2; exact DataW.trod_lt m _ _ _ hm
  obtain ⟨a2, rfl, rfl, rfl, w2⟩ := open_int Try.underlying3 (hval 2 3 v2 rfl rfl) h2
  obtain ⟨l0, rfl, hr0, hm0, hw0, hc0⟩ := ReadsInt.ofRowC w0
  clear hA0 hval0 hsz0
  obtain ⟨k, hp⟩ := Pure.FnExactToggleRank l0 a1 a2 hm0 hw0 w1 w2
  refine (L.laws_FnExactToggleRank.calls k _ _ l0 a1 a2 true W (Kd.C_of_reads (d := (0 : Int)) (h1 := fun _ => rfl) hr0) hc0 hp).mono fun e W' ⟨he, hd⟩ => ?_
  have bel : Below W.heap.size W W' := hd
  subst he
  exact ⟨_, rfl, _, _, _, [], _, [], hW', trodAll_mk1 (shut_bool Try.underlying4 _), (trodAll_cons_mk (Below.trod laidOut (by kernel_rfl) (of_decide_eq_true (by kernel_rfl)) k0 bel lt0) (trodAll_cons_mk (Below.trod laidOut (by kernel_rfl) (of_decide_eq_true (by kernel_rfl)) k1 bel lt1) (trodAll_cons_mk (Below.trod laidOut (by kernel_rfl) (of_decide_eq_true (by kernel_rfl)) k2 bel lt2) trodAll_mk0))), rfl, bel.frame _, fun h => by cases h⟩
theorem over : Rows.fnExactToggleRankRow.holds Try.pinned (OpenSpec.ofChange Rows.fnExactToggleRankSpec) :=
  OpenClaim.holds_of_wide 13 Try.f13 rfl rfl rfl rfl rfl rfl rfl ⟨rfl, rfl, rfl, rfl, rfl⟩ rfl rfl rfl rfl rfl (by kernel_rfl) Try.func13 (by kernel_rfl)
    (of_decide_eq_true (by kernel_rfl)) (by unfold Func.isWrapper; first | (rw [if_pos (by decide +kernel)]; kernel_rfl) | (rw [if_neg (by decide +kernel)]; exact ⟨rfl, rfl⟩))
    (fun os started H enc _ => lifted os started H enc)
theorem proved : Rows.FnExactToggleRankSaid := over
end Go.Proofs.Ytpcehliabaakeaa.fnExactToggleRank
namespace Go.Proofs.Ytpcehliabaakeaa
theorem fnExactToggleRank_holds : Rows.FnExactToggleRankSaid := fnExactToggleRank.proved
end Go.Proofs.Ytpcehliabaakeaa
end
