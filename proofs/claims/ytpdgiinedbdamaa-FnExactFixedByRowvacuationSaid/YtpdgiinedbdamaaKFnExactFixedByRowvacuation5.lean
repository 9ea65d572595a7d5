/- Laws about the given program: the law FnExactFixedByRowvacuation answers true for every input that its row lets in; no condition is added to the given statement. Contracts of the Go functions that it reaches, and the plain proof over lists. -/
import Derived.Test.YtpdgiinedbdamaaWFnExactFixedByRowvacuation0
import Derived.Test.YtpdgiinedbdamaaKFnExactFixedByRowvacuation0
import Derived.Test.YtpdgiinedbdamaaKFnExactFixedByRowvacuation1
import Derived.Test.YtpdgiinedbdamaaKFnExactFixedByRowvacuation2
import Derived.Test.YtpdgiinedbdamaaKFnExactFixedByRowvacuation3
import Derived.Test.YtpdgiinedbdamaaKFnExactFixedByRowvacuation4
section
namespace Go.Proofs.Ytpdgiinedbdamaa.L
open Go.RowKit Go.Proofs.YtpdgiinedbdamaaW.PrintWords Go.Proofs.YtpdgiinedbdamaaW.PrintLast Go.Proofs.YtpdgiinedbdamaaW.PrintMore
attribute [local go_sem] max2_int min2_int max_two min_two max_three min_three max_four min_four
set_option linter.unusedVariables false
set_option linter.unusedSimpArgs false
def impl_Poset_toggleRanks.l0 : Nat → Int → List Int → List Int → Int → Int → List Int → Option (Int)
  | 0, _, _, _, _, _, _ => none
  | k + 1, x1, x7, x12, x13, x14, x286000 => if x14 < x13 then (if 0 ≤ x14 then (if x14 < (x12.length : Int) then (if 0 ≤ (rd x12 x14) then (if (rd x12 x14) < (x7.length : Int) then ((impl_items.f k (rd x7 (rd x12 x14))).bind fun t291 => ((impl_Poset_toggles.f k x286000 x1 t291).bind fun t294 => (impl_Poset_toggleRanks.l0 k t294 x7 x12 x13 (wrap64 (x14 + 1)) x286000))) else (none)) else (none)) else (none)) else (none)) else (some x1)
def impl_Poset_toggleRanks.f (k : Nat) (l0_0 : List Int) (a1 : Int) (l2 : List Int) : Option (Int) := (impl_Poset_ranks.f k l0_0).bind fun t286 => (impl_Poset_toggleRanks.l0 k a1 t286 l2 (l2.length : Int) 0 l0_0)
theorem impl_Poset_toggleRanks.mono_l : ∀ k, (∀ y0 y1 y2 y3 y4 y5, LeO (impl_Poset_toggleRanks.l0 k y0 y1 y2 y3 y4 y5) (impl_Poset_toggleRanks.l0 (k + 1) y0 y1 y2 y3 y4 y5))
  | 0 => fun _ _ _ _ _ _ r h => by simp [impl_Poset_toggleRanks.l0] at h
  | k + 1 => by
    have ih0 := impl_Poset_toggleRanks.mono_l k
    · intro y0 y1 y2 y3 y4 y5
      unfold impl_Poset_toggleRanks.l0
      repeat' first
      | (with_reducible exact ih0 _ _ _ _ _ _)
      | (with_reducible exact impl_Poset_ranks.mono _ _)
      | (with_reducible exact impl_Poset_toggles.mono _ _ _ _)
      | (with_reducible exact impl_items.mono _ _)
      | (with_reducible exact LeO.refl _)
      | (with_reducible exact LeO.none _)
      | (with_reducible refine LeO.ite ?_ ?_)
      | (with_reducible refine LeO.bind ?_ (fun _ => ?_))
      | exact ih0 _ _ _ _ _ _
      | exact impl_Poset_ranks.mono _ _
      | exact impl_Poset_toggles.mono _ _ _ _
      | exact impl_items.mono _ _
      | exact LeO.none _
      | refine LeO.ite ?_ ?_
      | refine LeO.bind ?_ (fun _ => ?_)
theorem impl_Poset_toggleRanks.mono : ∀ a0 a1 a2 k, LeO (impl_Poset_toggleRanks.f k a0 a1 a2) (impl_Poset_toggleRanks.f (k + 1) a0 a1 a2) := by
  intro a0 a1 a2 k
  have ih0 := impl_Poset_toggleRanks.mono_l k
  unfold impl_Poset_toggleRanks.f
  repeat' first
      | (with_reducible exact ih0 _ _ _ _ _ _)
      | (with_reducible exact impl_Poset_ranks.mono _ _)
      | (with_reducible exact impl_Poset_toggles.mono _ _ _ _)
      | (with_reducible exact impl_items.mono _ _)
      | (with_reducible exact LeO.refl _)
      | (with_reducible exact LeO.none _)
      | (with_reducible refine LeO.ite ?_ ?_)
      | (with_reducible refine LeO.bind ?_ (fun _ => ?_))
      | exact ih0 _ _ _ _ _ _
      | exact impl_Poset_ranks.mono _ _
      | exact impl_Poset_toggles.mono _ _ _ _
      | exact impl_items.mono _ _
      | exact LeO.none _
      | refine LeO.ite ?_ ?_
      | refine LeO.bind ?_ (fun _ => ?_)
def impl_Poset_toggleRanks.T5 : Bool × List (List Nat × List Nat) := (true, [([], []), ([], []), ([], []), ([], []), ([2, 3], [2, 3]), ([4], [4]), ([5], [5]), ([0, 1, 6, 6], [0, 1, 6]), ([7, 7, 0, 1, 2, 3, 4, 5, 6, 7], [1, 7])])
def impl_Poset_toggleRanks.B5 : List Nat := [0, 0, 0, 0, 12, 28, 60, 127, 255]
theorem impl_Poset_toggleRanks.tab5 : rtab .any (opsOf Try.f51 5) = impl_Poset_toggleRanks.T5 := by kernel_rfl
theorem impl_Poset_toggleRanks.bits5 : waitsOk impl_Poset_toggleRanks.T5.2 impl_Poset_toggleRanks.B5 = true := by kernel_rfl
set_option maxHeartbeats 8000000 in
set_option maxRecDepth 100000 in
theorem impl_Poset_toggleRanks.calls (k : Nat) (A0_0 : Option Addr) (c0_0 : Nat) (l0_0 : List Int) (a1 : Int) (A2 : Option Addr) (c2 : Nat) (l2 : List Int) (r : Int) (w : World) (hr0_0 : Kd.C (Kd.int .i64) w A0_0 l0_0.length l0_0) (hc0_0 : l0_0.length ≤ c0_0) (hr2 : Kd.C (Kd.int .i64) w A2 l2.length l2) (hc2 : l2.length ≤ c2) (h : impl_Poset_toggleRanks.f k l0_0 a1 l2 = some r) :
    Calls Try.prog 51 #[.agg #[.slice A0_0 l0_0.length c0_0], .int .i64 a1, .slice A2 l2.length c2] w fun e w' => e = .returned (.int .i64 r) ∧ Below w.heap.size w w' := by
  have hu28 := Try.underlying28
  have HR0_0 := Aside0.mk hr0_0
  have HC0_0 := Aside0.mk hc0_0
  clear hr0_0 hc0_0
  have HR2 := Aside0.mk hr2
  have HC2 := Aside0.mk hc2
  clear hr2 hc2
  have HB := Aside0.mk (Below.refl w.heap.size w)
  have H : ((impl_Poset_ranks.f k l0_0).bind fun t286 => (impl_Poset_toggleRanks.l0 k a1 t286 l2 (l2.length : Int) 0 l0_0)) = some r := h
  clear h
  replace H := Option.bind_eq_some_iff.mp H
  obtain ⟨t286, A40, H⟩ := H
  replace H : (impl_Poset_toggleRanks.l0 k a1 t286 l2 (l2.length : Int) 0 l0_0) = some r := H
  have A4 := Aside0.mk A40
  clear A40
  have H' := Aside0.mk H
  clear H
  go_enter Try.func51, Try.ntmps51
  go_wp2_with (first | ((with_reducible refine gate_dst (N := 3) rfl ?_); refine box_event ?hg (N := 3) ?hd (cs := #[.slice A0_0 l0_0.length c0_0]) (t := 28) ?hr ?_; (case hd => rfl); (case hg => rfl); (case hr => first | (go_simp; done) | (go_simp; rfl)); intro gb285 hg w5 hbox hb; have n0_ := Aside0.mk (below_step (by repeat (first | (with_reducible first | exact HB.out | apply below_alloc | apply pw_below_drewN | apply below_drew1) | exact HB.out)) hb); have n1_ := Aside0.mk (hbox); have n2_ := Aside0.mk ((by rw [hg]; exact (below_size (by repeat (first | (with_reducible first | exact HB.out | apply below_alloc | apply pw_below_drewN | apply below_drew1) | exact HB.out))) : w.heap.size ≤ gb285)); have n3_ := Aside0.mk ((by rw [hg]; exact (below_size (by repeat (first | (with_reducible first | exact HB.out | apply below_alloc | apply pw_below_drewN | apply below_drew1) | exact HB.out))) : w.heap.size ≤ gb285)); clear HB; have HB := n0_; have BK285 := n1_; have GW285 := n2_; have GE285 := n3_; clear n0_ n1_ n2_ n3_; clear hb hbox hg; have hcz6_0 : w5.cell? ⟨gb285, 0, none⟩ = some (.slice A0_0 l0_0.length c0_0) := (blk_cell BK285.out 0).trans rfl; have hfz6_0 := blk_frozen BK285.out 0) | ((with_reducible refine gate_callee (f := 104) rfl ?_); refine goesL_ (some 11) rfl rfl Try.func104 (by kernel_rfl) rfl #[.agg #[.slice A0_0 l0_0.length c0_0]] rfl (by (try simp only [List.map_toArray, List.map_cons, List.map_nil]); first | done | rfl | (simp only [List.length_drop, List.length_take]; rfl)) ?_; (with_reducible refine (impl_Poset_ranks.calls k _ _ l0_0 t286 _ ?side1 ?side2 A4.out).mono ?_); (case side1 => repeat (first | exact (Kd.C_below HR0_0.out HB.out) | (with_reducible refine Kd.C_alloc ?_ _) | (with_reducible refine Kd.C_drewN ?_ _) | (with_reducible refine Kd.C_drew ?_))); (case side2 => exact HC0_0.out); rintro e w7 ⟨v287, rfl, ho0, hb⟩; refine ⟨_, rfl, ?_⟩; have n0_ := Aside0.mk (Kd.R_lower ho0 (below_size (by repeat (first | (with_reducible first | exact HB.out | apply below_alloc | apply pw_below_drewN | apply below_drew1 | refine below_set ?_ GE285.out) | exact HB.out)))); have n1_ := Aside0.mk (blk_below (g := gb285) (o := .cells #[.slice A0_0 l0_0.length c0_0] 28 (0, 0)) (by (with_reducible repeat (first | refine blk_drewN ?_ _ | refine blk_drew ?_ | refine blk_alloc ?_ _)); exact BK285.out) hb); have n2_ := Aside0.mk (below_step (by repeat (first | (with_reducible first | exact HB.out | apply below_alloc | apply pw_below_drewN | apply below_drew1 | refine below_set ?_ GE285.out) | exact HB.out)) hb); clear BK285; clear HB; have HO288 := n0_; have BK285 := n1_; have HB := n2_; clear n0_ n1_ n2_; (try clear hb); (try clear hb2); (try clear hk); (try clear hi); (try clear ho0)))
  go_loopg [1, 14] k (fun kq v1 v14 w' => ∃ (x1_1 : Int) (x14_1 : Int), v1 = .int .i64 x1_1 ∧ v14 = .int .i64 x14_1 ∧ Aside0 (impl_Poset_toggleRanks.l0 kq x1_1 t286 l2 (l2.length : Int) x14_1 l0_0 = some r) ∧ Aside0 (kq ≤ k) ∧ Aside0 (Kd.R (Kd.int .i64) 3 w' w.heap.size (fun _ => True) v287 t286) ∧ Aside0 (w'.heap[gb285]? = some (.cells #[(.slice A0_0 l0_0.length c0_0)] 28 (0, 0))) ∧ Aside0 (Below w.heap.size w w'))
  case atStart => exact ⟨(a1), (0), (by first | rfl | (simp; done) | (simp [*]; done)), (by first | rfl | (simp; done) | (simp [*]; done)), H', ⟨Nat.le_refl _⟩, ⟨by (with_reducible repeat (first | apply Kd.R_alloc | apply Kd.R_drewN | apply Kd.R_drew)); exact HO288.out⟩, ⟨by (with_reducible repeat (first | refine blk_drewN ?_ _ | refine blk_drew ?_ | refine blk_alloc ?_ _)); exact BK285.out⟩, ⟨by repeat (first | (with_reducible first | exact HB.out | apply below_alloc | apply pw_below_drewN | apply below_drew1 | refine below_set ?_ GE285.out) | exact HB.out)⟩⟩
  case round =>
    clear H'
    try clear c1
    try clear c2
    try clear p2
    try clear c5
    try clear hcz6_0
    try clear hfz6_0
    obtain ⟨x1_1, x14_1, rfl, rfl, HA, HK1, HO_7, BK285, HB⟩ := hrel
    cases gk with
    | zero => exact absurd HA.out (by simp [impl_Poset_toggleRanks.l0])
    | succ k1 =>
      have H := HA.out
      clear HA
      simp only [impl_Poset_toggleRanks.l0] at H
      by_cases c8 : x14_1 < (l2.length : Int)
      · rw [if_pos c8] at H
        have c8b0 : decide (x14_1 < (l2.length : Int)) = true := decide_eq_true c8
        clear c8
        by_cases c9 : 0 ≤ x14_1
        · rw [if_pos c9] at H
          have c9b0 : decide (0 ≤ x14_1) = true := decide_eq_true c9
          clear c9
          by_cases c10 : x14_1 < (l2.length : Int)
          · rw [if_pos c10] at H
            have c10b0 : decide (x14_1 < (l2.length : Int)) = true := decide_eq_true c10
            clear c10
            by_cases c11 : 0 ≤ (rd l2 x14_1)
            · rw [if_pos c11] at H
              have c11b0 : decide (0 ≤ (rd l2 x14_1)) = true := decide_eq_true c11
              clear c11
              by_cases c12 : (rd l2 x14_1) < (t286.length : Int)
              · rw [if_pos c12] at H
                have c12b0 : decide ((rd l2 x14_1) < (t286.length : Int)) = true := decide_eq_true c12
                clear c12
                replace H := Option.bind_eq_some_iff.mp H
                obtain ⟨t291, A130, H⟩ := H
                replace H : ((impl_Poset_toggles.f k1 l0_0 x1_1 t291).bind fun t294 => (impl_Poset_toggleRanks.l0 k1 t294 t286 l2 (l2.length : Int) (wrap64 (x14_1 + 1)) l0_0)) = some r := H
                have A13 := Aside0.mk A130
                clear A130
                replace H := Option.bind_eq_some_iff.mp H
                obtain ⟨t294, A140, H⟩ := H
                replace H : (impl_Poset_toggleRanks.l0 k1 t294 t286 l2 (l2.length : Int) (wrap64 (x14_1 + 1)) l0_0) = some r := H
                have A14 := Aside0.mk A140
                clear A140
                have H' := Aside0.mk H
                clear H
                have p289 : 0 ≤ (x14_1 : Int) := of_decide_eq_true (by first | (with_reducible assumption) | assumption)
                have q289 : x14_1 < (l2.length : Int) := of_decide_eq_true (by first | (with_reducible assumption) | assumption)
                obtain ⟨ad289, e289, hx289_0⟩ := Kd.at_int HR2.out x14_1 p289 q289
                cases e289
                replace hx289_0 := (HB.out.cell (World.block_lt_of_cell? w _ hx289_0)).trans hx289_0
                replace p289 := eq_true p289
                replace q289 := eq_true q289
                try go_wp2
                have n0_ := Aside0.mk (Kd.R_drew HO_7.out)
                have n1_ := Aside0.mk (blk_drew BK285.out)
                have n2_ := Aside0.mk (below_drew1 HB.out)
                clear HO_7
                clear BK285
                clear HB
                have HO_7 := n0_
                have BK285 := n1_
                have HB := n2_
                clear n0_ n1_ n2_
                obtain ⟨Ao16, co16, eo16⟩ := Kd.R_slice HO_7.out
                (first | subst eo16 | (injection eo16 with f1_ f2_ f3_; have f4_ := f1_.symm; have f5_ := f3_.symm; clear f1_ f2_ f3_; subst f4_; subst f5_))
                have p290 : 0 ≤ ((rd l2 x14_1) : Int) := of_decide_eq_true (by first | (with_reducible assumption) | assumption)
                have q290 : (rd l2 x14_1) < (t286.length : Int) := of_decide_eq_true (by first | (with_reducible assumption) | assumption)
                obtain ⟨ad290, e290, hx290_0⟩ := Kd.at_int (Kd.R_reads' HO_7.out).2.2 (rd l2 x14_1) p290 q290
                cases e290
                replace p290 := eq_true p290
                replace q290 := eq_true q290
                refine start_ (n := 9) (S := fun w' => w'.cell? ⟨gb285, 0, none⟩ = some (.slice A0_0 l0_0.length c0_0) ∧ w'.cell? (ad290.add ((rd l2 x14_1)).toNat) = some (.int .i64 (rd t286 (rd l2 x14_1)))) (ds := []) #[false, false, false, false, false, false, false, false, false] (by kernel_rfl) rfl rfl ⟨(blk_cell BK285.out 0).trans rfl, hx290_0⟩ (fun hHeld => ?_); refine with_tabW impl_Poset_toggleRanks.tab5 impl_Poset_toggleRanks.bits5 (fun HT_ HW_ => ?_)
                generalize wr.drew = w15 at HO_7 BK285 HB hx290_0 hHeld ⊢
                refine pure_ (i := 1) (N := some 19) (v := ?_) (a' := ?_) #[false, true, false, false, false, false, false, false, false] rfl rfl (any_of HT_.out (by kernel_rfl)) (fun _ _ _ h => h) (Or.inl ⟨by rfl, ?_⟩) ?_ ?_
                rotate_left
                · intro w'
                  go_simp
                  with_reducible rfl
                rotate_left
                · simp only [Act.put, List.setIfInBounds_toArray, List.set_cons_zero, List.set_cons_succ, i64_w, i32_w]
                  rfl
                refine pure_ (i := 2) (N := some 20) (v := ?_) (a' := ?_) #[false, true, true, false, false, false, false, false, false] rfl rfl (any_of HT_.out (by kernel_rfl)) (fun _ _ _ h => h) (Or.inl ⟨by rfl, ?_⟩) ?_ ?_
                rotate_left
                · intro w'
                  go_simp
                  with_reducible rfl
                rotate_left
                · simp only [Act.put, List.setIfInBounds_toArray, List.set_cons_zero, List.set_cons_succ, i64_w, i32_w]
                  rfl
                refine pure_ (i := 3) (N := some 21) (v := ?_) (a' := ?_) #[false, true, true, true, false, false, false, false, false] rfl rfl (any_of HT_.out (by kernel_rfl)) (fun _ _ _ h => h) (Or.inl ⟨by rfl, ?_⟩) ?_ ?_
                rotate_left
                · intro w'
                  go_simp
                  with_reducible rfl
                rotate_left
                · simp only [Act.put, List.setIfInBounds_toArray, List.set_cons_zero, List.set_cons_succ, i64_w, i32_w]
                  rfl
                refine pure_ (i := 4) (N := some 22) (v := ?_) (a' := ?_) #[false, true, true, true, true, false, false, false, false] rfl rfl (any_of HT_.out (by kernel_rfl)) (fun _ _ _ h => h) (Or.inl ⟨by rfl, ?_⟩) ?_ ?_
                rotate_left
                · intro w'
                  go_simp
                  with_reducible rfl
                rotate_left
                · simp only [Act.put, List.setIfInBounds_toArray, List.set_cons_zero, List.set_cons_succ, i64_w, i32_w]
                  rfl
                refine take_ (i := 0) (N := some 18) (v := ?_) (a' := ?_) #[true, true, true, true, true, false, false, false, false] rfl rfl (take_ofW HT_.out HW_.out (by kernel_rfl)) (fun _ _ _ h => h) (Or.inl ⟨by rfl, ?_⟩) hHeld ?_ ?_
                rotate_left
                · rintro w' ⟨s0, s1⟩
                  go_simp
                  with_reducible rfl
                rotate_left
                · simp only [Act.put, List.setIfInBounds_toArray, List.set_cons_zero, List.set_cons_succ, i64_w, i32_w]
                  rfl
                refine take_ (i := 5) (N := some 23) (v := ?_) (a' := ?_) #[true, true, true, true, true, true, false, false, false] rfl rfl (take_ofW HT_.out HW_.out (by kernel_rfl)) (fun _ _ _ h => h) (Or.inl ⟨by rfl, ?_⟩) hHeld ?_ ?_
                rotate_left
                · rintro w' ⟨s0, s1⟩
                  go_simp
                  with_reducible rfl
                rotate_left
                · simp only [Act.put, List.setIfInBounds_toArray, List.set_cons_zero, List.set_cons_succ, i64_w, i32_w]
                  rfl
                refine one_ (i := 6) (N := some 24) #[true, true, true, true, true, true, true, false, false] rfl rfl (one_of HT_.out (by kernel_rfl)) (by decide) (fun K hK => ?_)
                refine goes_ Try.func106 (by kernel_rfl) rfl #[.int .i64 (rd t286 (rd l2 x14_1))] (by rfl) rfl rfl (by (try simp only [List.map_toArray, List.map_cons, List.map_nil]); first | done | rfl | (simp only [List.length_drop, List.length_take]; rfl)) ?_
                with_reducible refine (impl_items.calls k1 (rd t286 (rd l2 x14_1)) t291 _ A13.out).mono ?_
                rintro e w17 ⟨v292, rfl, ho0, hb⟩
                have HS1_ := (hb.cell (World.block_lt_of_cell? _ _ (hHeld.2))).trans (hHeld.2)
                refine ⟨_, rfl, ?_⟩
                have n0_ := Aside0.mk (Kd.R_elder' (by (with_reducible repeat (first | apply Kd.R_alloc | apply Kd.R_drewN | apply Kd.R_drew)); exact HO_7.out) (Kd.R_base ho0) hb)
                have n1_ := Aside0.mk (Kd.R_lower (Kd.R_new' ho0 (Kd.R_lt (by (with_reducible repeat (first | apply Kd.R_alloc | apply Kd.R_drewN | apply Kd.R_drew)); exact HO_7.out))) (below_size (by repeat (first | (with_reducible first | exact HB.out | apply below_alloc | apply pw_below_drewN | apply below_drew1 | refine below_set ?_ GE285.out) | exact HB.out))))
                have n2_ := Aside0.mk (blk_below (g := gb285) (o := .cells #[.slice A0_0 l0_0.length c0_0] 28 (0, 0)) (by (with_reducible repeat (first | refine blk_drewN ?_ _ | refine blk_drew ?_ | refine blk_alloc ?_ _)); exact BK285.out) hb)
                have n3_ := Aside0.mk (below_step (by repeat (first | (with_reducible first | exact HB.out | apply below_alloc | apply pw_below_drewN | apply below_drew1 | refine below_set ?_ GE285.out) | exact HB.out)) hb)
                clear HO_7
                clear BK285
                clear HB
                have HO_7 := n0_
                have HO293 := n1_
                have BK285 := n2_
                have HB := n3_
                clear n0_ n1_ n2_ n3_
                (try clear hb)
                (try clear hb2)
                (try clear hk)
                (try clear hi)
                (try clear ho0)
                obtain ⟨Ao18, co18, eo18⟩ := Kd.R_slice HO293.out
                (first | subst eo18 | (injection eo18 with f1_ f2_ f3_; have f4_ := f1_.symm; have f5_ := f3_.symm; clear f1_ f2_ f3_; subst f4_; subst f5_))
                refine hK.out _ _ ⟨(blk_cell BK285.out 0).trans rfl, HS1_⟩ (fun hHeld => ?_)
                clear hK K
                refine norm_ (a' := ?_) ?_ ?_
                rotate_left
                · show Act.put _ (some 24) _ = _
                  simp only [Act.put, List.setIfInBounds_toArray, List.set_cons_zero, List.set_cons_succ, i64_w, i32_w]
                  rfl
                refine one_ (i := 7) (N := some 25) #[true, true, true, true, true, true, true, true, false] rfl rfl (one_of HT_.out (by kernel_rfl)) (by decide) (fun K hK => ?_)
                refine goes_ Try.func105 (by kernel_rfl) rfl #[.agg #[.slice A0_0 l0_0.length c0_0], .int .i64 x1_1, .slice Ao18 t291.length co18] (by rfl) rfl rfl (by (try simp only [List.map_toArray, List.map_cons, List.map_nil]); first | done | rfl | (simp only [List.length_drop, List.length_take]; rfl)) ?_
                with_reducible refine (impl_Poset_toggles.calls k1 _ _ l0_0 x1_1 _ _ t291 t294 _ ?side1 ?side2 ?side3 ?side4 A14.out).mono ?_
                (case side1 => repeat (first | exact (Kd.C_below HR0_0.out HB.out) | (with_reducible refine Kd.C_alloc ?_ _) | (with_reducible refine Kd.C_drewN ?_ _) | (with_reducible refine Kd.C_drew ?_)))
                (case side2 => exact HC0_0.out)
                (case side3 => repeat (first | exact (Kd.R_reads' HO293.out).2.2 | (with_reducible refine Kd.C_alloc ?_ _) | (with_reducible refine Kd.C_drewN ?_ _) | (with_reducible refine Kd.C_drew ?_)))
                (case side4 => exact (Kd.R_reads' HO293.out).2.1)
                rintro e w19 ⟨rfl, hb⟩
                have HS1_ := (hb.cell (World.block_lt_of_cell? _ _ (hHeld.2))).trans (hHeld.2)
                refine ⟨_, rfl, ?_⟩
                have n0_ := Aside0.mk (Kd.R_below (by (with_reducible repeat (first | apply Kd.R_alloc | apply Kd.R_drewN | apply Kd.R_drew)); exact HO_7.out) hb)
                have n1_ := Aside0.mk (Kd.R_below (by (with_reducible repeat (first | apply Kd.R_alloc | apply Kd.R_drewN | apply Kd.R_drew)); exact HO293.out) hb)
                have n2_ := Aside0.mk (blk_below (g := gb285) (o := .cells #[.slice A0_0 l0_0.length c0_0] 28 (0, 0)) (by (with_reducible repeat (first | refine blk_drewN ?_ _ | refine blk_drew ?_ | refine blk_alloc ?_ _)); exact BK285.out) hb)
                have n3_ := Aside0.mk (below_step (by repeat (first | (with_reducible first | exact HB.out | apply below_alloc | apply pw_below_drewN | apply below_drew1 | refine below_set ?_ GE285.out) | exact HB.out)) hb)
                clear HO_7
                clear HO293
                clear BK285
                clear HB
                have HO_7 := n0_
                have HO293 := n1_
                have BK285 := n2_
                have HB := n3_
                clear n0_ n1_ n2_ n3_
                (try clear hb)
                (try clear hb2)
                (try clear hk)
                (try clear hi)
                refine hK.out _ _ ⟨(blk_cell BK285.out 0).trans rfl, HS1_⟩ (fun hHeld => ?_)
                clear hK K
                refine norm_ (a' := ?_) ?_ ?_
                rotate_left
                · show Act.put _ (some 25) _ = _
                  simp only [Act.put, List.setIfInBounds_toArray, List.set_cons_zero, List.set_cons_succ, i64_w, i32_w]
                  rfl
                refine pure_ (i := 8) (N := some 1) (v := ?_) (a' := ?_) #[true, true, true, true, true, true, true, true, true] rfl rfl (any_of HT_.out (by kernel_rfl)) (fun _ _ _ h => h) (Or.inl ⟨by rfl, ?_⟩) ?_ ?_
                rotate_left
                · intro w'
                  go_simp
                  with_reducible rfl
                rotate_left
                · simp only [Act.put, List.setIfInBounds_toArray, List.set_cons_zero, List.set_cons_succ, i64_w, i32_w]
                  rfl
                refine done_ (done_of HT_.out (by kernel_rfl)) ?_
                try go_wp2
                go_roundg k1
                case measure => have := HK1.out; omega
                case rel => exact ⟨(t294), (wrap64 (x14_1 + 1)), (by first | rfl | (simp; done) | (simp [*]; done)), (by first | rfl | (simp; done) | (simp [*]; done)), H', ⟨by have := HK1.out; omega⟩, ⟨by (with_reducible repeat (first | apply Kd.R_alloc | apply Kd.R_drewN | apply Kd.R_drew)); exact Kd.R_mono HO_7.out (fun _ hk => trivial)⟩, ⟨by (with_reducible repeat (first | refine blk_drewN ?_ _ | refine blk_drew ?_ | refine blk_alloc ?_ _)); exact BK285.out⟩, ⟨by repeat (first | (with_reducible first | exact HB.out | apply below_alloc | apply pw_below_drewN | apply below_drew1 | refine below_set ?_ GE285.out) | exact HB.out)⟩⟩
              · rw [if_neg c12] at H
                exact absurd H (by simp)
            · rw [if_neg c11] at H
              exact absurd H (by simp)
          · rw [if_neg c10] at H
            exact absurd H (by simp)
        · rw [if_neg c9] at H
          exact absurd H (by simp)
      · rw [if_neg c8] at H
        have c8b0 : decide (x14_1 < (l2.length : Int)) = false := decide_eq_false c8
        clear c8
        obtain rfl := Option.some.inj H
        go_wp2
        go_ret
        exact ⟨by first | rfl | (simp [errW_none, errW_some] <;> rfl) | (simp [*, errW_none, errW_some] <;> rfl), by repeat (first | (with_reducible first | exact HB.out | apply below_alloc | apply pw_below_drewN | apply below_drew1 | refine below_set ?_ GE285.out) | exact HB.out)⟩
end Go.Proofs.Ytpdgiinedbdamaa.L
end
section
namespace Go.Proofs.Ytpdgiinedbdamaa.L
open Go.RowKit Go.Proofs.YtpdgiinedbdamaaW.PrintWords Go.Proofs.YtpdgiinedbdamaaW.PrintLast Go.Proofs.YtpdgiinedbdamaaW.PrintMore
attribute [local go_sem] max2_int min2_int max_two min_two max_three min_three max_four min_four
set_option linter.unusedVariables false
set_option linter.unusedSimpArgs false
def impl_Poset_high.f (k : Nat) (l0_0 : List Int) : Option (Int) := (impl_Poset_ranks.f k l0_0).bind fun t296 => (some (wrap64 ((t296.length : Int) - 1)))
theorem impl_Poset_high.mono : ∀ a0 k, LeO (impl_Poset_high.f k a0) (impl_Poset_high.f (k + 1) a0) := by
  intro a0 k
  unfold impl_Poset_high.f
  repeat' first
      | (with_reducible exact impl_Poset_ranks.mono _ _)
      | (with_reducible exact LeO.refl _)
      | (with_reducible exact LeO.none _)
      | (with_reducible refine LeO.ite ?_ ?_)
      | (with_reducible refine LeO.bind ?_ (fun _ => ?_))
      | exact impl_Poset_ranks.mono _ _
      | exact LeO.none _
      | refine LeO.ite ?_ ?_
      | refine LeO.bind ?_ (fun _ => ?_)
set_option maxHeartbeats 8000000 in
set_option maxRecDepth 100000 in
theorem impl_Poset_high.calls (k : Nat) (A0_0 : Option Addr) (c0_0 : Nat) (l0_0 : List Int) (r : Int) (w : World) (hr0_0 : Kd.C (Kd.int .i64) w A0_0 l0_0.length l0_0) (hc0_0 : l0_0.length ≤ c0_0) (h : impl_Poset_high.f k l0_0 = some r) :
    Calls Try.prog 67 #[.agg #[.slice A0_0 l0_0.length c0_0]] w fun e w' => e = .returned (.int .i64 r) ∧ Below w.heap.size w w' := by
  have hu28 := Try.underlying28
  have HR0_0 := Aside0.mk hr0_0
  have HC0_0 := Aside0.mk hc0_0
  clear hr0_0 hc0_0
  have HB := Aside0.mk (Below.refl w.heap.size w)
  have H : ((impl_Poset_ranks.f k l0_0).bind fun t296 => (some (wrap64 ((t296.length : Int) - 1)))) = some r := h
  clear h
  replace H := Option.bind_eq_some_iff.mp H
  obtain ⟨t296, A20, H⟩ := H
  replace H : (some (wrap64 ((t296.length : Int) - 1))) = some r := H
  have A2 := Aside0.mk A20
  clear A20
  obtain rfl := Option.some.inj H
  go_enter Try.func67, Try.ntmps67
  go_wp2_with (first | ((with_reducible refine gate_dst (N := 1) rfl ?_); refine box_event ?hg (N := 1) ?hd (cs := #[.slice A0_0 l0_0.length c0_0]) (t := 28) ?hr ?_; (case hd => rfl); (case hg => rfl); (case hr => first | (go_simp; done) | (go_simp; rfl)); intro gb295 hg w3 hbox hb; have n0_ := Aside0.mk (below_step (by repeat (first | (with_reducible first | exact HB.out | apply below_alloc | apply pw_below_drewN | apply below_drew1) | exact HB.out)) hb); have n1_ := Aside0.mk (hbox); have n2_ := Aside0.mk ((by rw [hg]; exact (below_size (by repeat (first | (with_reducible first | exact HB.out | apply below_alloc | apply pw_below_drewN | apply below_drew1) | exact HB.out))) : w.heap.size ≤ gb295)); have n3_ := Aside0.mk ((by rw [hg]; exact (below_size (by repeat (first | (with_reducible first | exact HB.out | apply below_alloc | apply pw_below_drewN | apply below_drew1) | exact HB.out))) : w.heap.size ≤ gb295)); clear HB; have HB := n0_; have BK295 := n1_; have GW295 := n2_; have GE295 := n3_; clear n0_ n1_ n2_ n3_; clear hb hbox hg; have hcz4_0 : w3.cell? ⟨gb295, 0, none⟩ = some (.slice A0_0 l0_0.length c0_0) := (blk_cell BK295.out 0).trans rfl; have hfz4_0 := blk_frozen BK295.out 0) | ((with_reducible refine gate_callee (f := 104) rfl ?_); refine goesL_ (some 4) rfl rfl Try.func104 (by kernel_rfl) rfl #[.agg #[.slice A0_0 l0_0.length c0_0]] rfl (by (try simp only [List.map_toArray, List.map_cons, List.map_nil]); first | done | rfl | (simp only [List.length_drop, List.length_take]; rfl)) ?_; (with_reducible refine (impl_Poset_ranks.calls k _ _ l0_0 t296 _ ?side1 ?side2 A2.out).mono ?_); (case side1 => repeat (first | exact (Kd.C_below HR0_0.out HB.out) | (with_reducible refine Kd.C_alloc ?_ _) | (with_reducible refine Kd.C_drewN ?_ _) | (with_reducible refine Kd.C_drew ?_))); (case side2 => exact HC0_0.out); rintro e w5 ⟨v297, rfl, ho0, hb⟩; refine ⟨_, rfl, ?_⟩; have n0_ := Aside0.mk (Kd.R_lower ho0 (below_size (by repeat (first | (with_reducible first | exact HB.out | apply below_alloc | apply pw_below_drewN | apply below_drew1 | refine below_set ?_ GE295.out) | exact HB.out)))); have n1_ := Aside0.mk (blk_below (g := gb295) (o := .cells #[.slice A0_0 l0_0.length c0_0] 28 (0, 0)) (by (with_reducible repeat (first | refine blk_drewN ?_ _ | refine blk_drew ?_ | refine blk_alloc ?_ _)); exact BK295.out) hb); have n2_ := Aside0.mk (below_step (by repeat (first | (with_reducible first | exact HB.out | apply below_alloc | apply pw_below_drewN | apply below_drew1 | refine below_set ?_ GE295.out) | exact HB.out)) hb); clear BK295; clear HB; have HO298 := n0_; have BK295 := n1_; have HB := n2_; clear n0_ n1_ n2_; (try clear hb); (try clear hb2); (try clear hk); (try clear hi); (try clear ho0); obtain ⟨Ao6, co6, eo6⟩ := Kd.R_slice HO298.out; subst eo6))
  go_ret
  exact ⟨by first | rfl | (simp [errW_none, errW_some] <;> rfl) | (simp [*, errW_none, errW_some] <;> rfl), by repeat (first | (with_reducible first | exact HB.out | apply below_alloc | apply pw_below_drewN | apply below_drew1 | refine below_set ?_ GE295.out) | exact HB.out)⟩
end Go.Proofs.Ytpdgiinedbdamaa.L
end
section
namespace Go.Proofs.Ytpdgiinedbdamaa.L
open Go.RowKit Go.Proofs.YtpdgiinedbdamaaW.PrintWords Go.Proofs.YtpdgiinedbdamaaW.PrintLast Go.Proofs.YtpdgiinedbdamaaW.PrintMore
attribute [local go_sem] max2_int min2_int max_two min_two max_three min_three max_four min_four
set_option linter.unusedVariables false
set_option linter.unusedSimpArgs false
mutual
def impl_vacuation.l0 : Nat → Int → List Int → Int → Int → Option (List Int)
  | 0, _, _, _, _ => none
  | k + 1, x0, x3, x8, x9 => if x9 < x8 then (impl_vacuation.l1 k x0 x3 x9 x0 x8 x9) else (some x3)
def impl_vacuation.l1 : Nat → Int → List Int → Int → Int → Int → Int → Option (List Int)
  | 0, _, _, _, _, _, _ => none
  | k + 1, x0, x3, x4, x5, x8, x9 => if x5 ≥ x4 then (if x3.length < 17592186044416 then (impl_vacuation.l1 k x0 (x3 ++ [x5]) x4 (wrap64 (x5 - 1)) x8 x9) else (none)) else (impl_vacuation.l0 k x0 x3 x8 (wrap64 (x9 + 1)))
end
def impl_vacuation.f (k : Nat) (a0 : Int) : Option (List Int) := impl_vacuation.l0 k a0 (([] : List Int)) (wrap64 (a0 + 1)) 0
theorem impl_vacuation.mono_l : ∀ k, (∀ y0 y1 y2 y3, LeO (impl_vacuation.l0 k y0 y1 y2 y3) (impl_vacuation.l0 (k + 1) y0 y1 y2 y3)) ∧ (∀ y0 y1 y2 y3 y4 y5, LeO (impl_vacuation.l1 k y0 y1 y2 y3 y4 y5) (impl_vacuation.l1 (k + 1) y0 y1 y2 y3 y4 y5))
  | 0 => ⟨fun _ _ _ _ r h => by simp [impl_vacuation.l0] at h, fun _ _ _ _ _ _ r h => by simp [impl_vacuation.l1] at h⟩
  | k + 1 => by
    obtain ⟨ih0, ih1⟩ := impl_vacuation.mono_l k
    refine ⟨?_, ?_⟩
    · intro y0 y1 y2 y3
      unfold impl_vacuation.l0
      repeat' first
      | (with_reducible exact ih0 _ _ _ _)
      | (with_reducible exact ih1 _ _ _ _ _ _)
      | (with_reducible exact LeO.refl _)
      | (with_reducible exact LeO.none _)
      | (with_reducible refine LeO.ite ?_ ?_)
      | (with_reducible refine LeO.bind ?_ (fun _ => ?_))
      | exact ih0 _ _ _ _
      | exact ih1 _ _ _ _ _ _
      | exact LeO.none _
      | refine LeO.ite ?_ ?_
      | refine LeO.bind ?_ (fun _ => ?_)
    · intro y0 y1 y2 y3 y4 y5
      unfold impl_vacuation.l1
      repeat' first
      | (with_reducible exact ih0 _ _ _ _)
      | (with_reducible exact ih1 _ _ _ _ _ _)
      | (with_reducible exact LeO.refl _)
      | (with_reducible exact LeO.none _)
      | (with_reducible refine LeO.ite ?_ ?_)
      | (with_reducible refine LeO.bind ?_ (fun _ => ?_))
      | exact ih0 _ _ _ _
      | exact ih1 _ _ _ _ _ _
      | exact LeO.none _
      | refine LeO.ite ?_ ?_
      | refine LeO.bind ?_ (fun _ => ?_)
theorem impl_vacuation.mono : ∀ a0 k, LeO (impl_vacuation.f k a0) (impl_vacuation.f (k + 1) a0) := by
  intro a0 k
  obtain ⟨ih0, ih1⟩ := impl_vacuation.mono_l k
  unfold impl_vacuation.f
  repeat' first
      | (with_reducible exact ih0 _ _ _ _)
      | (with_reducible exact ih1 _ _ _ _ _ _)
      | (with_reducible exact LeO.refl _)
      | (with_reducible exact LeO.none _)
      | (with_reducible refine LeO.ite ?_ ?_)
      | (with_reducible refine LeO.bind ?_ (fun _ => ?_))
      | exact ih0 _ _ _ _
      | exact ih1 _ _ _ _ _ _
      | exact LeO.none _
      | refine LeO.ite ?_ ?_
      | refine LeO.bind ?_ (fun _ => ?_)
set_option maxHeartbeats 8000000 in
set_option maxRecDepth 100000 in
theorem impl_vacuation.calls (k : Nat) (a0 : Int) (r : List Int) (w : World) (h : impl_vacuation.f k a0 = some r) :
    Calls Try.prog 66 #[.int .i64 a0] w fun e w' => ∃ v0_ : Value, e = .returned (v0_) ∧ Kd.R (Kd.int .i64) 3 w' w.heap.size (fun _ => True) v0_ r ∧ Below w.heap.size w w' := by
  have HB := Aside0.mk (Below.refl w.heap.size w)
  have H : (impl_vacuation.l0 k a0 (([] : List Int)) (wrap64 (a0 + 1)) 0) = some r := h
  clear h
  obtain ⟨y542, hy542⟩ : ∃ y_ : List Int, y_ = (([] : List Int)) := ⟨_, rfl⟩
  replace H : (impl_vacuation.l0 k a0 y542 (wrap64 (a0 + 1)) 0) = some r := by first | (rw [hy542]; with_reducible exact H) | (have H2_ := (Option.bind_some _ _).symm.trans H; rw [hy542]; with_reducible exact H2_) | (have H2_ := (Option.bind_some _ _).symm.trans H; with_reducible exact H2_) | with_reducible exact H | (rw [hy542]; exact H) | exact H
  have Ny542 := Aside0.mk hy542
  clear hy542
  have H' := Aside0.mk H
  clear H
  go_enter Try.func66, Try.ntmps66
  go_wp2_with (first | ((with_reducible refine gate_dst (N := 6) rfl ?_); refine Kd.R_lit (Kd.int .i64) _ 3 ?hg (N := 6) ?hd (xs := ([] : List Int)) (inner := []) (ok := fun _ => True) (okp := fun _ => True) ?hr ?hp (fun _ hk => hk) trivial (Below.refl _ _) (Nat.le_refl _) (by simp) ?_; (case hd => rfl); (case hg => rfl); (case hr => first | (go_simp; done) | (go_simp; rfl)); (case hp => exact (Reps.none _ _)); intro v543 w2 ho3 hb hg_ hnew_; clear hg_ hnew_; (first | rw [← Ny542.out] at ho3 | (simp only [Int.reduceToNat] at ho3; rw [← Ny542.out] at ho3)); have n0_ := Aside0.mk (Kd.R_lower ho3 (below_size (by repeat (first | (with_reducible first | exact HB.out | apply below_alloc | apply pw_below_drewN | apply below_drew1) | exact HB.out)))); have n1_ := Aside0.mk (below_step (by repeat (first | (with_reducible first | exact HB.out | apply below_alloc | apply pw_below_drewN | apply below_drew1) | exact HB.out)) hb); clear HB; have HO544 := n0_; have HB := n1_; clear n0_ n1_; clear hb ho3))
  go_loopg [3, 9] k (fun kq v3 v9 w' => ∃ (x3_1 : List Int) (x9_1 : Int), v9 = .int .i64 x9_1 ∧ Aside0 (impl_vacuation.l0 kq a0 x3_1 (wrap64 (a0 + 1)) x9_1 = some r) ∧ Aside0 (kq ≤ k) ∧ Aside0 (Kd.R (Kd.int .i64) 3 w' w.heap.size (fun _ => True) v3 x3_1) ∧ Aside0 (Below w.heap.size w w'))
  case atStart => exact ⟨(y542), (0), (by first | rfl | (simp; done) | (simp [*]; done)), H', ⟨Nat.le_refl _⟩, ⟨by (with_reducible repeat (first | apply Kd.R_alloc | apply Kd.R_drewN | apply Kd.R_drew)); exact HO544.out⟩, ⟨by repeat (first | (with_reducible first | exact HB.out | apply below_alloc | apply pw_below_drewN | apply below_drew1) | exact HB.out)⟩⟩
  case round =>
    clear H'
    try clear p2
    obtain ⟨x3_1, x9_1, rfl, HA, HK1, HO_3, HB⟩ := hrel
    cases gk with
    | zero => exact absurd HA.out (by simp [impl_vacuation.l0])
    | succ k1 =>
      have H := HA.out
      clear HA
      simp only [impl_vacuation.l0] at H
      by_cases c4 : x9_1 < (wrap64 (a0 + 1))
      · rw [if_pos c4] at H
        have c4b0 : decide (x9_1 < (wrap64 (a0 + 1))) = true := decide_eq_true c4
        clear c4
        have H' := Aside0.mk H
        clear H
        go_wp2
        go_loopg [3, 5] k1 (fun kq v3 v5 w' => ∃ (x3_2 : List Int) (x5_2 : Int), v5 = .int .i64 x5_2 ∧ Aside0 (impl_vacuation.l1 kq a0 x3_2 x9_1 x5_2 (wrap64 (a0 + 1)) x9_1 = some r) ∧ Aside0 (kq ≤ k1) ∧ Aside0 (Kd.R (Kd.int .i64) 3 w' w.heap.size (fun _ => True) v3 x3_2) ∧ Aside0 (Below w.heap.size w w'))
        case atStart => exact ⟨(x3_1), (a0), (by first | rfl | (simp; done) | (simp [*]; done)), H', ⟨Nat.le_refl _⟩, ⟨by (with_reducible repeat (first | apply Kd.R_alloc | apply Kd.R_drewN | apply Kd.R_drew)); exact HO_3.out⟩, ⟨by repeat (first | (with_reducible first | exact HB.out | apply below_alloc | apply pw_below_drewN | apply below_drew1) | exact HB.out)⟩⟩
        case round =>
          clear H'
          try clear p2
          try clear c4
          try clear c4b0
          try clear p2
          obtain ⟨x3_2, x5_2, rfl, HA, HK2, HO_3, HB⟩ := hrel
          cases gk with
          | zero => exact absurd HA.out (by simp [impl_vacuation.l1])
          | succ k2 =>
            have H := HA.out
            clear HA
            simp only [impl_vacuation.l1] at H
            by_cases c5 : x5_2 ≥ x9_1
            · rw [if_pos c5] at H
              have c5b0 : decide (x9_1 ≤ x5_2) = true := decide_eq_true c5
              clear c5
              by_cases c6 : x3_2.length < 17592186044416
              · rw [if_pos c6] at H
                have LMc6 := Aside0.mk c6
                clear c6
                obtain ⟨y545, hy545⟩ : ∃ y_ : List Int, y_ = (x3_2 ++ [x5_2]) := ⟨_, rfl⟩
                replace H : (impl_vacuation.l1 k2 a0 y545 x9_1 (wrap64 (x5_2 - 1)) (wrap64 (a0 + 1)) x9_1) = some r := by first | (rw [hy545]; with_reducible exact H) | (have H2_ := (Option.bind_some _ _).symm.trans H; rw [hy545]; with_reducible exact H2_) | (have H2_ := (Option.bind_some _ _).symm.trans H; with_reducible exact H2_) | with_reducible exact H | (rw [hy545]; exact H) | exact H
                have Ny545 := Aside0.mk hy545
                clear hy545
                have H' := Aside0.mk H
                clear H
                go_wp2_with (first | ((with_reducible refine gate_builtin (b := .append) (xs := #[.tmp 18, .tmp 20]) rfl ?_); at_builtin; refine Kd.R_append (Kd.int .i64) (w0 := w) w.heap.size rfl (.tmp 18) (.tmp 20) 22 3 (.int .i64 0) 8 rfl Try.underlying22 info3 rfl (by decide) (by omega) u3 x3_2 x5_2 [.int .i64 x5_2] (fun _ => True) (fun _ => False) rfl rfl ?aP (fun _ hk => hk.elim) ?aF ?aO ?aB ?aS ?aL ?_; (case aP => exact rfl); (case aB => exact (by repeat (first | (with_reducible first | exact HB.out | apply below_alloc | apply pw_below_drewN | apply below_drew1) | exact HB.out))); (case aF => exact (fun _ _ => trivial)); (case aO => exact (by (with_reducible repeat (first | apply Kd.R_alloc | apply Kd.R_drewN | apply Kd.R_drew)); exact HO_3.out)); (case aS => exact (below_size (by repeat (first | (with_reducible first | exact HB.out | apply below_alloc | apply pw_below_drewN | apply below_drew1) | exact HB.out)))); (case aL => have := LMc6.out; omega); intro v546 w7 ho hb hg hat; rw [← Ny545.out] at ho; have n0_ := Aside0.mk (hb); have n1_ := Aside0.mk (ho); clear HB; clear HO_3; have HB := n0_; have HO547 := n1_; clear n0_ n1_; clear ho hb hg hat))
                go_roundg k2
                case measure => have := HK1.out; have := HK2.out; omega
                case rel => exact ⟨(y545), (wrap64 (x5_2 - 1)), (by first | rfl | (simp; done) | (simp [*]; done)), H', ⟨by have := HK1.out; have := HK2.out; omega⟩, ⟨by (with_reducible repeat (first | apply Kd.R_alloc | apply Kd.R_drewN | apply Kd.R_drew)); exact HO547.out⟩, ⟨by repeat (first | (with_reducible first | exact HB.out | apply below_alloc | apply pw_below_drewN | apply below_drew1) | exact HB.out)⟩⟩
              · rw [if_neg c6] at H
                exact absurd H (by simp)
            · rw [if_neg c5] at H
              have c5b0 : decide (x9_1 ≤ x5_2) = false := decide_eq_false c5
              clear c5
              have H' := Aside0.mk H
              clear H
              go_wp2
              go_roundg k2
              case measure => have := HK1.out; have := HK2.out; omega
              case rel => exact ⟨(x3_2), (wrap64 (x9_1 + 1)), (by first | rfl | (simp; done) | (simp [*]; done)), H', ⟨by have := HK1.out; have := HK2.out; omega⟩, ⟨by (with_reducible repeat (first | apply Kd.R_alloc | apply Kd.R_drewN | apply Kd.R_drew)); exact HO_3.out⟩, ⟨by repeat (first | (with_reducible first | exact HB.out | apply below_alloc | apply pw_below_drewN | apply below_drew1) | exact HB.out)⟩⟩
      · rw [if_neg c4] at H
        have c4b0 : decide (x9_1 < (wrap64 (a0 + 1))) = false := decide_eq_false c4
        clear c4
        obtain rfl := Option.some.inj H
        go_wp2
        go_ret
        exact ⟨_, by first | rfl | (simp [errW_none, errW_some] <;> rfl) | (simp [*, errW_none, errW_some] <;> rfl), by (with_reducible repeat (first | apply Kd.R_alloc | apply Kd.R_drewN | apply Kd.R_drew)); exact HO_3.out, by repeat (first | (with_reducible first | exact HB.out | apply below_alloc | apply pw_below_drewN | apply below_drew1) | exact HB.out)⟩
end Go.Proofs.Ytpdgiinedbdamaa.L
end
section
namespace Go.Proofs.Ytpdgiinedbdamaa.L
open Go.RowKit Go.Proofs.YtpdgiinedbdamaaW.PrintWords Go.Proofs.YtpdgiinedbdamaaW.PrintLast Go.Proofs.YtpdgiinedbdamaaW.PrintMore
attribute [local go_sem] max2_int min2_int max_two min_two max_three min_three max_four min_four
set_option linter.unusedVariables false
set_option linter.unusedSimpArgs false
open Go.Proofs.Ytpdgiinedbdamaa.X in
set_option maxHeartbeats 400000 in
set_option maxRecDepth 100000 in
theorem slices_IndexFunc.calls (A0 : Option Addr) (c0 : Nat) (l0 : List Int) (g : Nat) (lb : Array Value) (p : Int → Bool) (w : World) (eg : ∀ args w, (callFunc g args).run Try.prog w = .ok (.enter g args) w)
    (hr0 : Kd.C (Kd.int .i64) w A0 l0.length l0) (hl : l0.length ≤ 9223372036854775806) (hp : ∀ x, x ∈ l0 → Fv Try.prog g lb #[.int .i64 x] (.bool (p x)) w) :
    Calls Try.prog 122 #[.slice A0 l0.length c0, .func (.func g) #[] lb] w fun e w' => e = .returned (.int .i64 (idxOf p l0)) ∧ Below w.heap.size w w' := by
  have HR0 := Aside0.mk hr0
  have HP := Aside0.mk hp
  clear hr0 hp
  go_enter Try.func122, Try.ntmps122
  go_wp2
  go_loopw [8] (fun v8 wr => ∃ k : Nat, k ≤ l0.length ∧ v8 = .int .i64 k ∧ Aside0 (idxOf p l0 = idxFrom p (l0.drop k) k) ∧ Aside0 (Below w.heap.size w wr)) (fun v8 _ => l0.length - (intOf v8).toNat)
  case atStart => exact ⟨0, Nat.zero_le _, rfl, ⟨rfl⟩, ⟨Below.refl _ _⟩⟩
  case round =>
    obtain ⟨k, hk, rfl, HI, HB⟩ := hrel
    by_cases hlt : k < l0.length
    · have hdrop : l0.drop k = l0[k] :: l0.drop (k + 1) := (List.drop_eq_getElem_cons hlt)
      have hrd : rd l0 (k : Int) = l0[k] := by simp [rd, List.getD_eq_getElem?_getD, hlt]
      have hmem : l0[k] ∈ l0 := List.getElem_mem hlt
      have hfv := HP.out _ hmem
      rw [← hrd] at hfv
      have hI3 := Aside0.mk (show idxOf p l0 = if p (rd l0 (k : Int)) then (k : Int) else idxFrom p (l0.drop (k + 1)) (k + 1) by rw [hrd, HI.out, hdrop, idxFrom])
      have HF := Aside0.mk hfv
      clear hfv hdrop hrd HI hmem
      have p1 : 0 ≤ ((k : Nat) : Int) := by omega
      have q1 : ((k : Nat) : Int) < (l0.length : Int) := by omega
      obtain ⟨ad, e1, hx⟩ := Kd.at_int (Kd.C_below HR0.out HB.out) k p1 q1
      rw [Int.toNat_natCast] at hx
      cases e1
      by_cases hp : p (rd l0 (k : Int)) = true
      all_goals
        have hP := Aside0.mk hp
        go_wp2_with (go_at_fn g; (with_reducible refine (Fv.calls HF.out HB.out).mono ?_); rintro e w2 ⟨rfl, hb⟩)
        first | go_ret | go_roundw
      · exact ⟨by rw [hI3.out, if_pos hP.out]; rfl, below_to HB.out hb⟩
      case rel => exact ⟨k + 1, by omega, by go_num, ⟨by rw [hI3.out, if_neg hP.out]⟩, ⟨below_to HB.out hb⟩⟩
      case measure => simp [intOf]; omega
    · go_wp2
      go_ret
      exact ⟨by rw [HI.out, List.drop_of_length_le (by omega)]; rfl, HB.out⟩
end Go.Proofs.Ytpdgiinedbdamaa.L
end
section
namespace Go.Proofs.Ytpdgiinedbdamaa.L
open Go.RowKit Go.Proofs.YtpdgiinedbdamaaW.PrintWords Go.Proofs.YtpdgiinedbdamaaW.PrintLast Go.Proofs.YtpdgiinedbdamaaW.PrintMore
attribute [local go_sem] max2_int min2_int max_two min_two max_three min_three max_four min_four
set_option linter.unusedVariables false
set_option linter.unusedSimpArgs false
open Go.Proofs.Ytpdgiinedbdamaa.X in
theorem slices_DeleteFunc.idx_spec (p : Int → Bool) : ∀ (l : List Int) (i : Nat), (idxFrom p l i = -1 ∧ l.filter (fun x => !p x) = l) ∨ ∃ k, k < l.length ∧ idxFrom p l i = ((i + k : Nat) : Int) ∧ (l.take (k + 1)).filter (fun x => !p x) = l.take k
  | [], i => .inl ⟨rfl, rfl⟩
  | x :: l, i => by
    unfold idxFrom
    by_cases h : p x = true
    · rw [if_pos h]
      exact .inr ⟨0, by simp, by simp, by simp [h]⟩
    · rw [if_neg h]
      have h' : p x = false := by simpa using h
      rcases slices_DeleteFunc.idx_spec p l (i + 1) with ⟨e1, e2⟩ | ⟨k, hk, e1, e2⟩
      · exact .inl ⟨e1, by rw [List.filter_cons, h']; simp [e2]⟩
      · refine .inr ⟨k + 1, by simpa using hk, by rw [e1]; congr 1; omega, ?_⟩
        rw [List.take_succ_cons, List.filter_cons, h', List.take_succ_cons, e2]
        simp
theorem slices_DeleteFunc.below_cells {B : Nat} {a : World} (b : Nat) (hb : B ≤ b) : ∀ (vs : List Value) (o : Nat) {w : World}, Below B a w → Below B a (w.setCells b o vs)
  | [], _, _, h => h
  | v :: r, o, _, h => slices_DeleteFunc.below_cells b hb r (o + 1) (h.setCell (p := ⟨b, o, none⟩) hb v)
theorem slices_DeleteFunc.cleared {g c base e : Nat} {ok : Nat → Prop} (i : Nat) : ∀ (m o : Nat) (w : World) (xs : List Int), (Kd.int .i64).R e w base ok (.slice (some ⟨g, 0, none⟩) xs.length c) xs → i ≤ o →
    ∃ ys : List Int, (Kd.int .i64).R e (w.setCells g o (List.replicate m (.int .i64 0))) base ok (.slice (some ⟨g, 0, none⟩) ys.length c) ys ∧ ys.take i = xs.take i ∧ ys.length = xs.length
  | 0, o, w, xs, h, hi => ⟨xs, h, rfl, rfl⟩
  | m + 1, o, w, xs, h, hi => by
    have h1 := (Kd.R_putn h (o : Int) (0 : Int))
    rw [Int.toNat_natCast] at h1
    have h2 : (Kd.int .i64).R e (w.setCell ⟨g, o, none⟩ (.int .i64 0)) base ok (.slice (some ⟨g, 0, none⟩) (xs.set o 0).length c) (xs.set o 0) := by rw [List.length_set]; exact h1
    obtain ⟨ys, y1, y2, y3⟩ := slices_DeleteFunc.cleared i m (o + 1) _ _ h2 (by omega)
    exact ⟨ys, y1, by rw [y2, List.take_set_of_le hi], by rw [y3, List.length_set]⟩
theorem slices_DeleteFunc.keep {l dk : List Int} {p : Int → Bool} {i j : Nat} (hi : i < j) (hj : j < l.length) (hlen : dk.length = l.length) (h1 : dk.take i = (l.take j).filter (fun x => !p x)) (h2 : dk.drop j = l.drop j) :
    rd dk (j : Int) = l[j] ∧ (p l[j] = true → dk.take i = (l.take (j + 1)).filter (fun x => !p x)) ∧ dk.drop (j + 1) = l.drop (j + 1) ∧
    (p l[j] = false → (dk.set i l[j]).take (i + 1) = (l.take (j + 1)).filter (fun x => !p x)) ∧ (dk.set i l[j]).drop (j + 1) = l.drop (j + 1) := by
  have e0 : dk[j]? = l[j]? := by
    have := congrArg (fun x => x[0]?) h2
    simpa using this
  have e1 : dk.drop (j + 1) = l.drop (j + 1) := by
    have := congrArg (List.drop 1) h2
    rwa [List.drop_drop, List.drop_drop] at this
  refine ⟨?_, fun hp => ?_, e1, fun hp => ?_, ?_⟩
  · rw [List.getElem?_eq_getElem hj] at e0
    simp [rd, List.getD_eq_getElem?_getD, e0]
  · rw [List.take_succ_eq_append_getElem hj, List.filter_append, h1]
    simp [hp]
  · rw [List.take_succ_eq_append_getElem hj, List.filter_append, ← h1, List.take_set, List.take_succ_eq_append_getElem (show i < dk.length by omega)]
    have e2 : (dk.take i).length = i := by rw [List.length_take]; omega
    rw [List.set_append_right _ _ (by omega), e2, Nat.sub_self]
    simp [hp]
  · rw [List.drop_set_of_lt (by omega), e1]
open Go.Proofs.Ytpdgiinedbdamaa.X in
set_option maxHeartbeats 1600000 in
set_option maxRecDepth 100000 in
theorem slices_DeleteFunc.calls (v : Value) (l : List Int) (gF : Nat) (lbF : Array Value) (p : Int → Bool) (w0 w : World) (eg : ∀ args w, (callFunc gF args).run Try.prog w = .ok (.enter gF args) w) (hb : Below w0.heap.size w0 w)
    (hr : Kd.R (Kd.int .i64) 3 w w0.heap.size (fun _ => True) v l) (hl : l.length ≤ 9223372036854775806) (hp : ∀ x, x ∈ l → Fv Try.prog gF lbF #[.int .i64 x] (.bool (p x)) w0) :
    Calls Try.prog 80 #[v, .func (.func gF) #[] lbF] w fun e w' => ∃ v0_ : Value, e = .returned v0_ ∧ Kd.R (Kd.int .i64) 3 w' w0.heap.size (fun _ => True) v0_ (l.filter fun x => !p x) ∧ Below w0.heap.size w0 w' := by
  obtain ⟨A0, c0, rfl, hlc, hC⟩ := Kd.R_reads hr
  have EG := Aside0.mk eg
  have HR := Aside0.mk hr
  have HP := Aside0.mk hp
  have HB0 := Aside0.mk hb
  have HCC := Aside0.mk hC
  have HL := Aside0.mk hl
  have HCap := Aside0.mk hlc
  clear hr hp hb hC hl hlc
  go_enter Try.func80, Try.ntmps80
  go_wp2_with fail
  refine (slices_IndexFunc.calls A0 c0 l gF lbF p _ EG.out HCC.out HL.out (fun x hx => (HP.out x hx).later HB0.out)).mono ?_
  rintro e w1 ⟨rfl, hb⟩
  have B1 := Aside0.mk (below_to HB0.out hb)
  have R1 := Aside0.mk (Kd.R_below HR.out hb)
  clear hb HR HCC HB0
  have hs := slices_DeleteFunc.idx_spec p l 0
  have hs : (idxOf p l = -1 ∧ l.filter (fun x => !p x) = l) ∨ ∃ k, k < l.length ∧ idxOf p l = (k : Int) ∧ (l.take (k + 1)).filter (fun x => !p x) = l.take k := by
    rcases hs with h | ⟨k, h1, h2, h3⟩
    · exact .inl h
    · exact .inr ⟨k, h1, by rw [Nat.zero_add] at h2; exact h2, h3⟩
  rcases hs with ⟨e1, e2⟩ | ⟨k0, hk0, e1, e2⟩
  · rw [e1]
    have E2 := Aside0.mk e2
    clear e1 e2
    go_wp2
    go_ret
    exact ⟨_, rfl, by rw [E2.out]; exact R1.out, B1.out⟩
  · rw [e1]
    have E2 := Aside0.mk e2
    have hne : ((k0 : Int) == -1) = false := beq_eq_false_iff_ne.2 (by omega)
    obtain ⟨k1, hk1⟩ : ∃ k1, k1 = k0 + 1 := ⟨_, rfl⟩
    have e3 : wrap64 ((k0 : Int) + 1) = (k1 : Int) := by have := HL.out; unfold wrap64; omega
    rw [← hk1] at E2
    have HK1 := Aside0.mk hk1
    clear hk1
    obtain ⟨g, c1, eo, gb, gl, cl, hg⟩ := Kd.R_form R1.out (by omega)
    cases eo
    have GB := Aside0.mk gb
    clear e1 e2 gb gl hg
    go_wp2
    (try simp only [e3])
    clear e3 hne
    go_loopw [5, 6] (fun v5 v6 wr => ∃ (i j : Nat) (dk : List Int), v5 = .int .i64 i ∧ v6 = .int .i64 j ∧ i < j ∧ j ≤ l.length ∧ Aside0 (dk.length = l.length ∧ dk.take i = (l.take j).filter (fun x => !p x) ∧ dk.drop j = l.drop j) ∧ Aside0 (Kd.R (Kd.int .i64) 3 wr w0.heap.size (fun _ => True) (.slice (some ⟨g, 0, none⟩) l.length c0) dk) ∧ Aside0 (Below w0.heap.size w0 wr)) (fun _ v6 _ => l.length - (intOf v6).toNat)
    case atStart => exact ⟨k0, k1, l, rfl, by first | rfl | go_num, by have := HK1.out; omega, by have := HK1.out; omega, ⟨rfl, E2.out.symm, rfl⟩, R1, B1⟩
    case round =>
      obtain ⟨i, j, dk, rfl, rfl, hij, hjl, HI, HR, HB⟩ := hrel
      by_cases hlt : j < l.length
      · obtain ⟨k1, k2, k3, k4, k5⟩ := slices_DeleteFunc.keep hij hlt HI.out.1 HI.out.2.1 HI.out.2.2
        obtain ⟨hx, _⟩ := Kd.R_celln (0 : Int) HR.out (j : Int) (by omega) (by omega)
        have hx : wr.cell? ⟨g, j, none⟩ = some (.int .i64 l[j]) := by rw [Int.toNat_natCast] at hx; rw [hx, ← k1]; rfl
        have e2 : wrap64 ((j : Int) + 1) = ((j + 1 : Nat) : Int) := by have := HL.out; unfold wrap64; omega
        have e3 : wrap64 ((i : Int) + 1) = ((i + 1 : Nat) : Int) := by have := HL.out; unfold wrap64; omega
        have HF := Aside0.mk (HP.out _ (List.getElem_mem hlt))
        have K2 := Aside0.mk k2
        have K3 := Aside0.mk k3
        have K4 := Aside0.mk k4
        have K5 := Aside0.mk k5
        clear k1 k2 k3 k4 k5
        obtain ⟨u, hu⟩ : ∃ u, u = l[j] := ⟨_, rfl⟩
        rw [← hu] at hx HF K2 K4 K5
        clear hu
        cases hq : p u with
        | true =>
          rw [hq] at HF
          have HQ := Aside0.mk hq
          clear hq
          go_wp2_with (go_at_fn gF; (with_reducible refine (Fv.calls HF.out HB.out).mono ?_); rintro e w2 ⟨rfl, hb⟩)
          go_roundw
          case rel => exact ⟨i, j + 1, dk, rfl, by first | rfl | go_num, by omega, by omega, ⟨HI.out.1, K2.out HQ.out, K3.out⟩, ⟨Kd.R_below HR.out hb⟩, ⟨below_to HB.out hb⟩⟩
          case measure => (try simp only [e2]); exact (Nat.sub_lt_sub_left (by omega) (Nat.lt_succ_self j) : l.length - (j + 1) < l.length - j)
        | false =>
          rw [hq] at HF
          have HQ := Aside0.mk hq
          clear hq
          have hi1 : (i : Int) < (l.length : Int) := by omega
          have hi0 : 0 ≤ (i : Int) := by omega
          go_wp2_with (go_at_fn gF; (with_reducible refine (Fv.calls HF.out HB.out).mono ?_); rintro e w2 ⟨rfl, hb⟩; have R2 := Aside0.mk (Kd.R_below HR.out hb); have B2 := Aside0.mk (below_to HB.out hb); obtain ⟨hy, hz⟩ := Kd.R_celln (0 : Int) R2.out (i : Int) (by omega) (by omega); rw [Int.toNat_natCast] at hy hz; clear hb)
          go_roundw
          case rel =>
            have P2 := Kd.R_putg R2.out (i : Int) u
            rw [Int.toNat_natCast] at P2
            exact ⟨i + 1, j + 1, dk.set i u, by first | rfl | go_num, by first | rfl | go_num, by omega, by omega, ⟨by rw [List.length_set]; exact HI.out.1, K4.out HQ.out, K5.out⟩, ⟨P2.1⟩, ⟨below_set B2.out GB.out⟩⟩
          case measure => (try simp only [e2]); exact (Nat.sub_lt_sub_left (by omega) (Nat.lt_succ_self j) : l.length - (j + 1) < l.length - j)
      · have hj : j = l.length := by omega
        subst hj
        obtain ⟨h1, h2, h3⟩ := HI.out
        rw [List.take_of_length_le (Nat.le_refl _)] at h2
        have hin : i ≤ dk.length := by omega
        obtain ⟨ys, y1, y2, y3⟩ := slices_DeleteFunc.cleared (g := g) (c := c0) i (l.length - i) i wr dk (by rw [h1]; exact HR.out) (Nat.le_refl _)
        have Y1 := Aside0.mk (Kd.R_take y1 (show i ≤ ys.length by omega))
        have Y2 := Aside0.mk (show (l.filter fun x => !p x) = ys.take i by rw [y2, h2])
        have Y3 := Aside0.mk (slices_DeleteFunc.below_cells g GB.out (List.replicate (l.length - i) (.int .i64 0)) i HB.out)
        have hcl : ∀ ty, (Builtin.clear_ #[22] ty #[.slice (some ⟨g, i, none⟩) (l.length - i) (c0 - i)]).run Try.prog wr = .ok (.tuple #[]) (wr.setCells g i (List.replicate (l.length - i) (.int .i64 0))) :=
          fun ty => Lib.run_clear_slice wr 22 3 ty (.int .i64 0) Try.underlying22 (fun w => by kernel_rfl) rfl rfl g i _ _ (by omega)
            (fun t ht => by obtain ⟨hx, _⟩ := Kd.R_celln (0 : Int) HR.out ((i + t : Nat) : Int) (by omega) (by omega); rw [Int.toNat_natCast] at hx; rw [hx]; rfl)
            (fun t ht => by obtain ⟨_, hx⟩ := Kd.R_celln (0 : Int) HR.out ((i + t : Nat) : Int) (by omega) (by omega); rw [Int.toNat_natCast] at hx; exact hx)
        have q1 : (i : Int) < (l.length : Int) := by omega
        have q2 : (i : Int) ≤ (l.length : Int) := by omega
        have q3 : (l.length : Int) ≤ (c0 : Int) := by have := HCap.out; omega
        have q4 : (i : Int) ≤ (c0 : Int) := by omega
        clear y1 y2 y3 h1 h2 h3
        go_wp2
        go_ret
        exact ⟨_, rfl, by rw [Y2.out]; exact Y1.out, Y3.out⟩
end Go.Proofs.Ytpdgiinedbdamaa.L
end
section
namespace Go.Proofs.Ytpdgiinedbdamaa.L
open Go.RowKit Go.Proofs.YtpdgiinedbdamaaW.PrintWords Go.Proofs.YtpdgiinedbdamaaW.PrintLast Go.Proofs.YtpdgiinedbdamaaW.PrintMore
attribute [local go_sem] max2_int min2_int max_two min_two max_three min_three max_four min_four
set_option linter.unusedVariables false
set_option linter.unusedSimpArgs false
def impl_Poset_all.f (l0_0 : List Int) : Option (Int) := (impl_Poset_n.f l0_0).bind fun t258 => (if 0 ≤ t258 then (some (wrap64 ((shl .i64 1 t258) - 1))) else (none))
set_option maxHeartbeats 8000000 in
set_option maxRecDepth 100000 in
theorem impl_Poset_all.calls (A0_0 : Option Addr) (c0_0 : Nat) (l0_0 : List Int) (r : Int) (w : World) (hr0_0 : Kd.C (Kd.int .i64) w A0_0 l0_0.length l0_0) (hc0_0 : l0_0.length ≤ c0_0) (h : impl_Poset_all.f l0_0 = some r) :
    Calls Try.prog 156 #[.agg #[.slice A0_0 l0_0.length c0_0]] w fun e w' => e = .returned (.int .i64 r) ∧ Below w.heap.size w w' := by
  have hu28 := Try.underlying28
  have HR0_0 := Aside0.mk hr0_0
  have HC0_0 := Aside0.mk hc0_0
  clear hr0_0 hc0_0
  have HB := Aside0.mk (Below.refl w.heap.size w)
  have H : ((impl_Poset_n.f l0_0).bind fun t258 => (if 0 ≤ t258 then (some (wrap64 ((shl .i64 1 t258) - 1))) else (none))) = some r := h
  clear h
  replace H := Option.bind_eq_some_iff.mp H
  obtain ⟨t258, A20, H⟩ := H
  replace H : (if 0 ≤ t258 then (some (wrap64 ((shl .i64 1 t258) - 1))) else (none)) = some r := H
  have A2 := Aside0.mk A20
  clear A20
  by_cases c3 : 0 ≤ t258
  · rw [if_pos c3] at H
    have c3b0 := eq_true c3
    have c3b1 : decide (0 ≤ t258) = true := decide_eq_true c3
    clear c3
    obtain ⟨ji4, hji4⟩ : ∃ j_ : Int, (shl .i64 1 t258) = j_ := ⟨_, rfl⟩
    replace H : (some (wrap64 ((ji4) - 1))) = some r := by first | (rw [hji4] at H; exact H) | (simp only [hji4] at H ⊢; exact H)
    (try rw [hji4] at A2)
    have hji4_ : (IntKind.i64.wrap (1 * 2 ^ min t258.toNat 64)) = ji4 := hji4
    have hji4z : t258 ≤ 64 → (IntKind.i64.wrap (1 * 2 ^ t258.toNat)) = ji4 := shl_small hji4
    have hji4u : (IntKind.i64.wrap (2 ^ min t258.toNat 64)) = ji4 := by have h_ := hji4_; rw [Int.one_mul] at h_; exact h_
    have hji4v : t258 ≤ 64 → (IntKind.i64.wrap (2 ^ t258.toNat)) = ji4 := fun hle_ => by have h_ := hji4z hle_; rw [Int.one_mul] at h_; exact h_
    have hji4y : (wrap64 (1 * 2 ^ min t258.toNat 64)) = ji4 := (i64_w _).symm.trans hji4_
    have hji4x : t258 ≤ 64 → (wrap64 (1 * 2 ^ t258.toNat)) = ji4 := fun h_ => (i64_w _).symm.trans (hji4z h_)
    obtain rfl := Option.some.inj H
    go_enter Try.func156, Try.ntmps156
    go_wp2_with (first | ((with_reducible refine gate_dst (N := 1) rfl ?_); refine box_event ?hg (N := 1) ?hd (cs := #[.slice A0_0 l0_0.length c0_0]) (t := 28) ?hr ?_; (case hd => rfl); (case hg => rfl); (case hr => first | (go_simp; done) | (go_simp; rfl)); intro gb257 hg w5 hbox hb; have n0_ := Aside0.mk (below_step (by repeat (first | (with_reducible first | exact HB.out | apply below_alloc | apply pw_below_drewN | apply below_drew1) | exact HB.out)) hb); have n1_ := Aside0.mk (hbox); have n2_ := Aside0.mk ((by rw [hg]; exact (below_size (by repeat (first | (with_reducible first | exact HB.out | apply below_alloc | apply pw_below_drewN | apply below_drew1) | exact HB.out))) : w.heap.size ≤ gb257)); have n3_ := Aside0.mk ((by rw [hg]; exact (below_size (by repeat (first | (with_reducible first | exact HB.out | apply below_alloc | apply pw_below_drewN | apply below_drew1) | exact HB.out))) : w.heap.size ≤ gb257)); clear HB; have HB := n0_; have BK257 := n1_; have GW257 := n2_; have GE257 := n3_; clear n0_ n1_ n2_ n3_; clear hb hbox hg; have hcz6_0 : w5.cell? ⟨gb257, 0, none⟩ = some (.slice A0_0 l0_0.length c0_0) := (blk_cell BK257.out 0).trans rfl; have hfz6_0 := blk_frozen BK257.out 0) | ((with_reducible refine gate_callee (f := 60) rfl ?_); refine goesL_ (some 4) rfl rfl Try.func60 (by kernel_rfl) rfl #[.agg #[.slice A0_0 l0_0.length c0_0]] rfl (by (try simp only [List.map_toArray, List.map_cons, List.map_nil]); first | done | rfl | (simp only [List.length_drop, List.length_take]; rfl)) ?_; (with_reducible refine (impl_Poset_n.calls _ _ l0_0 t258 _ ?side1 ?side2 A2.out).mono ?_); (case side1 => repeat (first | exact (Kd.C_below HR0_0.out HB.out) | (with_reducible refine Kd.C_alloc ?_ _) | (with_reducible refine Kd.C_drewN ?_ _) | (with_reducible refine Kd.C_drew ?_))); (case side2 => exact HC0_0.out); rintro e w7 ⟨rfl, hb⟩; refine ⟨_, rfl, ?_⟩; have n0_ := Aside0.mk (blk_below (g := gb257) (o := .cells #[.slice A0_0 l0_0.length c0_0] 28 (0, 0)) (by (with_reducible repeat (first | refine blk_drewN ?_ _ | refine blk_drew ?_ | refine blk_alloc ?_ _)); exact BK257.out) hb); have n1_ := Aside0.mk (below_step (by repeat (first | (with_reducible first | exact HB.out | apply below_alloc | apply pw_below_drewN | apply below_drew1 | refine below_set ?_ GE257.out) | exact HB.out)) hb); clear BK257; clear HB; have BK257 := n0_; have HB := n1_; clear n0_ n1_; (try clear hb); (try clear hb2); (try clear hk); (try clear hi)))
    go_ret
    exact ⟨by first | rfl | (simp [errW_none, errW_some] <;> rfl) | (simp only [← hji4]; first | rfl | (simp [errW_none, errW_some] <;> rfl)) | (simp [*, errW_none, errW_some] <;> rfl), by repeat (first | (with_reducible first | exact HB.out | apply below_alloc | apply pw_below_drewN | apply below_drew1 | refine below_set ?_ GE257.out) | exact HB.out)⟩
  · rw [if_neg c3] at H
    exact absurd H (by simp)
end Go.Proofs.Ytpdgiinedbdamaa.L
end
section
namespace Go.Proofs.Ytpdgiinedbdamaa.L
open Go.RowKit Go.Proofs.YtpdgiinedbdamaaW.PrintWords Go.Proofs.YtpdgiinedbdamaaW.PrintLast Go.Proofs.YtpdgiinedbdamaaW.PrintMore
attribute [local go_sem] max2_int min2_int max_two min_two max_three min_three max_four min_four
set_option linter.unusedVariables false
set_option linter.unusedSimpArgs false
class Fn1 where
  p : Int → Option Bool
def impl_Poset_ideals_1.f [Fn1] (a0 : Int) : Option Bool := Fn1.p a0
end Go.Proofs.Ytpdgiinedbdamaa.L
end
section
namespace Go.Proofs.Ytpdgiinedbdamaa.L
open Go.RowKit Go.Proofs.YtpdgiinedbdamaaW.PrintWords Go.Proofs.YtpdgiinedbdamaaW.PrintLast Go.Proofs.YtpdgiinedbdamaaW.PrintMore
attribute [local go_sem] max2_int min2_int max_two min_two max_three min_three max_four min_four
set_option linter.unusedVariables false
variable [Fn1]
set_option linter.unusedSimpArgs false
def impl_Poset_sets.l0 : Nat → List Int → Int → Int → Option (List Int)
  | 0, _, _, _ => none
  | k + 1, x5, x10, x11 => if x11 < x10 then ((impl_Poset_ideals_1.f x11).bind fun t825 => (if t825 = true then (if x5.length < 17592186044416 then (impl_Poset_sets.l0 k (x5 ++ [x11]) x10 (wrap64 (x11 + 1))) else (none)) else (impl_Poset_sets.l0 k x5 x10 (wrap64 (x11 + 1))))) else (some x5)
def impl_Poset_sets.f (k : Nat) (l0_0 : List Int) (a1 : Int) : Option (List Int) := (impl_Poset_all.f l0_0).bind fun t824 => (impl_Poset_sets.l0 k (([] : List Int)) (wrap64 (t824 + 1)) 0)
theorem impl_Poset_sets.mono_l : ∀ k, (∀ y0 y1 y2, LeO (impl_Poset_sets.l0 k y0 y1 y2) (impl_Poset_sets.l0 (k + 1) y0 y1 y2))
  | 0 => fun _ _ _ r h => by simp [impl_Poset_sets.l0] at h
  | k + 1 => by
    have ih0 := impl_Poset_sets.mono_l k
    · intro y0 y1 y2
      unfold impl_Poset_sets.l0
      repeat' first
      | (with_reducible exact ih0 _ _ _)
      | (with_reducible exact LeO.refl _)
      | (with_reducible exact LeO.none _)
      | (with_reducible refine LeO.ite ?_ ?_)
      | (with_reducible refine LeO.bind ?_ (fun _ => ?_))
      | exact ih0 _ _ _
      | exact LeO.none _
      | refine LeO.ite ?_ ?_
      | refine LeO.bind ?_ (fun _ => ?_)
theorem impl_Poset_sets.mono : ∀ a0 a1 k, LeO (impl_Poset_sets.f k a0 a1) (impl_Poset_sets.f (k + 1) a0 a1) := by
  intro a0 a1 k
  have ih0 := impl_Poset_sets.mono_l k
  unfold impl_Poset_sets.f
  repeat' first
      | (with_reducible exact ih0 _ _ _)
      | (with_reducible exact LeO.refl _)
      | (with_reducible exact LeO.none _)
      | (with_reducible refine LeO.ite ?_ ?_)
      | (with_reducible refine LeO.bind ?_ (fun _ => ?_))
      | exact ih0 _ _ _
      | exact LeO.none _
      | refine LeO.ite ?_ ?_
      | refine LeO.bind ?_ (fun _ => ?_)
set_option maxHeartbeats 8000000 in
set_option maxRecDepth 100000 in
open Go.Proofs.Ytpdgiinedbdamaa.X in
theorem impl_Poset_sets.calls (gF : Nat) (lbF : Array Value) (eg : ∀ args w, (callFunc gF args).run Try.prog w = .ok (.enter gF args) w) (k : Nat) (A0_0 : Option Addr) (c0_0 : Nat) (l0_0 : List Int) (a1 : Int) (r : List Int) (w : World) (hr0_0 : Kd.C (Kd.int .i64) w A0_0 l0_0.length l0_0) (hc0_0 : l0_0.length ≤ c0_0) (hpF : ∀ x0_ b, impl_Poset_ideals_1.f x0_ = some b → Fv Try.prog gF lbF #[.int .i64 x0_] (.bool b) w) (h : impl_Poset_sets.f k l0_0 a1 = some r) :
    Calls Try.prog 123 #[.agg #[.slice A0_0 l0_0.length c0_0], .func (.func gF) #[] lbF] w fun e w' => ∃ v0_ : Value, e = .returned (v0_) ∧ Kd.R (Kd.int .i64) 3 w' w.heap.size (fun _ => True) v0_ r ∧ Below w.heap.size w w' := by
  have HP := Aside0.mk hpF
  clear hpF
  have hu28 := Try.underlying28
  have HR0_0 := Aside0.mk hr0_0
  have HC0_0 := Aside0.mk hc0_0
  clear hr0_0 hc0_0
  have HB := Aside0.mk (Below.refl w.heap.size w)
  have H : ((impl_Poset_all.f l0_0).bind fun t824 => (impl_Poset_sets.l0 k (([] : List Int)) (wrap64 (t824 + 1)) 0)) = some r := h
  clear h
  obtain ⟨y821, hy821⟩ : ∃ y_ : List Int, y_ = (([] : List Int)) := ⟨_, rfl⟩
  replace H : ((impl_Poset_all.f l0_0).bind fun t824 => (impl_Poset_sets.l0 k y821 (wrap64 (t824 + 1)) 0)) = some r := by first | (rw [hy821]; with_reducible exact H) | (have H2_ := (Option.bind_some _ _).symm.trans H; rw [hy821]; with_reducible exact H2_) | (have H2_ := (Option.bind_some _ _).symm.trans H; with_reducible exact H2_) | with_reducible exact H | (rw [hy821]; exact H) | exact H
  have Ny821 := Aside0.mk hy821
  clear hy821
  replace H := Option.bind_eq_some_iff.mp H
  obtain ⟨t824, A30, H⟩ := H
  replace H : (impl_Poset_sets.l0 k y821 (wrap64 (t824 + 1)) 0) = some r := H
  have A3 := Aside0.mk A30
  clear A30
  have H' := Aside0.mk H
  clear H
  go_enter Try.func123, Try.ntmps123
  go_wp2_with (first | ((with_reducible refine gate_dst (N := 2) rfl ?_); refine box_event ?hg (N := 2) ?hd (cs := #[.slice A0_0 l0_0.length c0_0]) (t := 28) ?hr ?_; (case hd => rfl); (case hg => rfl); (case hr => first | (go_simp; done) | (go_simp; rfl)); intro gb820 hg w4 hbox hb; have n0_ := Aside0.mk (below_step (by repeat (first | (with_reducible first | exact HB.out | apply below_alloc | apply pw_below_drewN | apply below_drew1) | exact HB.out)) hb); have n1_ := Aside0.mk (hbox); have n2_ := Aside0.mk ((by rw [hg]; exact (below_size (by repeat (first | (with_reducible first | exact HB.out | apply below_alloc | apply pw_below_drewN | apply below_drew1) | exact HB.out))) : w.heap.size ≤ gb820)); have n3_ := Aside0.mk ((by rw [hg]; exact (below_size (by repeat (first | (with_reducible first | exact HB.out | apply below_alloc | apply pw_below_drewN | apply below_drew1) | exact HB.out))) : w.heap.size ≤ gb820)); clear HB; have HB := n0_; have BK820 := n1_; have GW820 := n2_; have GE820 := n3_; clear n0_ n1_ n2_ n3_; clear hb hbox hg) | ((with_reducible refine gate_dst (N := 7) rfl ?_); refine Kd.R_lit (Kd.int .i64) _ 3 ?hg (N := 7) ?hd (xs := ([] : List Int)) (inner := []) (ok := fun _ => True) (okp := fun _ => True) ?hr ?hp (fun _ hk => hk) trivial (Below.refl _ _) (Nat.le_refl _) (by simp) ?_; (case hd => rfl); (case hg => rfl); (case hr => first | (go_simp; done) | (go_simp; rfl)); (case hp => exact (Reps.none _ _)); intro v822 w5 ho6 hb hg_ hnew_; clear hg_ hnew_; (first | rw [← Ny821.out] at ho6 | (simp only [Int.reduceToNat] at ho6; rw [← Ny821.out] at ho6)); have n0_ := Aside0.mk (Kd.R_lower ho6 (below_size (by repeat (first | (with_reducible first | exact HB.out | apply below_alloc | apply pw_below_drewN | apply below_drew1 | refine below_set ?_ GE820.out) | exact HB.out)))); have n1_ := Aside0.mk (blk_below (g := gb820) (o := .cells #[.slice A0_0 l0_0.length c0_0] 28 (0, 0)) (by (with_reducible repeat (first | refine blk_drewN ?_ _ | refine blk_drew ?_ | refine blk_alloc ?_ _)); exact BK820.out) hb); have n2_ := Aside0.mk (below_step (by repeat (first | (with_reducible first | exact HB.out | apply below_alloc | apply pw_below_drewN | apply below_drew1 | refine below_set ?_ GE820.out) | exact HB.out)) hb); clear BK820; clear HB; have HO823 := n0_; have BK820 := n1_; have HB := n2_; clear n0_ n1_ n2_; clear hb ho6; have hcz7_0 : w5.cell? ⟨gb820, 0, none⟩ = some (.slice A0_0 l0_0.length c0_0) := (blk_cell BK820.out 0).trans rfl; have hfz7_0 := blk_frozen BK820.out 0) | ((with_reducible refine gate_callee (f := 156) rfl ?_); refine goesL_ (some 9) rfl rfl Try.func156 (by kernel_rfl) rfl #[.agg #[.slice A0_0 l0_0.length c0_0]] rfl (by (try simp only [List.map_toArray, List.map_cons, List.map_nil]); first | done | rfl | (simp only [List.length_drop, List.length_take]; rfl)) ?_; (with_reducible refine (impl_Poset_all.calls _ _ l0_0 t824 _ ?side1 ?side2 A3.out).mono ?_); (case side1 => repeat (first | exact (Kd.C_below HR0_0.out HB.out) | (with_reducible refine Kd.C_alloc ?_ _) | (with_reducible refine Kd.C_drewN ?_ _) | (with_reducible refine Kd.C_drew ?_))); (case side2 => exact HC0_0.out); rintro e w8 ⟨rfl, hb⟩; refine ⟨_, rfl, ?_⟩; have n0_ := Aside0.mk (Kd.R_below (by (with_reducible repeat (first | apply Kd.R_alloc | apply Kd.R_drewN | apply Kd.R_drew)); exact HO823.out) hb); have n1_ := Aside0.mk (blk_below (g := gb820) (o := .cells #[.slice A0_0 l0_0.length c0_0] 28 (0, 0)) (by (with_reducible repeat (first | refine blk_drewN ?_ _ | refine blk_drew ?_ | refine blk_alloc ?_ _)); exact BK820.out) hb); have n2_ := Aside0.mk (below_step (by repeat (first | (with_reducible first | exact HB.out | apply below_alloc | apply pw_below_drewN | apply below_drew1 | refine below_set ?_ GE820.out) | exact HB.out)) hb); clear HO823; clear BK820; clear HB; have HO823 := n0_; have BK820 := n1_; have HB := n2_; clear n0_ n1_ n2_; (try clear hb); (try clear hb2); (try clear hk); (try clear hi)))
  go_loopg [5, 11] k (fun kq v5 v11 w' => ∃ (x5_1 : List Int) (x11_1 : Int), v11 = .int .i64 x11_1 ∧ Aside0 (impl_Poset_sets.l0 kq x5_1 (wrap64 (t824 + 1)) x11_1 = some r) ∧ Aside0 (kq ≤ k) ∧ Aside0 (Kd.R (Kd.int .i64) 3 w' w.heap.size (fun _ => True) v5 x5_1) ∧ Aside0 (w'.heap[gb820]? = some (.cells #[(.slice A0_0 l0_0.length c0_0)] 28 (0, 0))) ∧ Aside0 (Below w.heap.size w w'))
  case atStart => exact ⟨(y821), (0), (by first | rfl | (simp; done) | (simp [*]; done)), H', ⟨Nat.le_refl _⟩, ⟨by (with_reducible repeat (first | apply Kd.R_alloc | apply Kd.R_drewN | apply Kd.R_drew)); exact HO823.out⟩, ⟨by (with_reducible repeat (first | refine blk_drewN ?_ _ | refine blk_drew ?_ | refine blk_alloc ?_ _)); exact BK820.out⟩, ⟨by repeat (first | (with_reducible first | exact HB.out | apply below_alloc | apply pw_below_drewN | apply below_drew1 | refine below_set ?_ GE820.out) | exact HB.out)⟩⟩
  case round =>
    clear H'
    try clear c1
    try clear p2
    try clear p6
    try clear hcz7_0
    try clear hfz7_0
    obtain ⟨x5_1, x11_1, rfl, HA, HK1, HO_5, BK820, HB⟩ := hrel
    cases gk with
    | zero => exact absurd HA.out (by simp [impl_Poset_sets.l0])
    | succ k1 =>
      have H := HA.out
      clear HA
      simp only [impl_Poset_sets.l0] at H
      by_cases c9 : x11_1 < (wrap64 (t824 + 1))
      · rw [if_pos c9] at H
        have c9b0 : decide (x11_1 < (wrap64 (t824 + 1))) = true := decide_eq_true c9
        clear c9
        replace H := Option.bind_eq_some_iff.mp H
        obtain ⟨t825, A100, H⟩ := H
        replace H : (if t825 = true then (if x5_1.length < 17592186044416 then (impl_Poset_sets.l0 k1 (x5_1 ++ [x11_1]) (wrap64 (t824 + 1)) (wrap64 (x11_1 + 1))) else (none)) else (impl_Poset_sets.l0 k1 x5_1 (wrap64 (t824 + 1)) (wrap64 (x11_1 + 1)))) = some r := H
        have A10 := Aside0.mk A100
        clear A100
        by_cases c11 : t825 = true
        · subst c11
          have H1 : (if x5_1.length < 17592186044416 then (impl_Poset_sets.l0 k1 (x5_1 ++ [x11_1]) (wrap64 (t824 + 1)) (wrap64 (x11_1 + 1))) else (none)) = some r := by rw [if_pos rfl] at H; exact H
          clear H
          have H := H1
          clear H1
          by_cases c12 : x5_1.length < 17592186044416
          · rw [if_pos c12] at H
            have LMc12 := Aside0.mk c12
            clear c12
            obtain ⟨y826, hy826⟩ : ∃ y_ : List Int, y_ = (x5_1 ++ [x11_1]) := ⟨_, rfl⟩
            replace H : (impl_Poset_sets.l0 k1 y826 (wrap64 (t824 + 1)) (wrap64 (x11_1 + 1))) = some r := by first | (rw [hy826]; with_reducible exact H) | (have H2_ := (Option.bind_some _ _).symm.trans H; rw [hy826]; with_reducible exact H2_) | (have H2_ := (Option.bind_some _ _).symm.trans H; with_reducible exact H2_) | with_reducible exact H | (rw [hy826]; exact H) | exact H
            have Ny826 := Aside0.mk hy826
            clear hy826
            have H' := Aside0.mk H
            clear H
            go_wp2_with (first | (go_at_fn gF; (with_reducible refine (Fv.calls (HP.out _ _ A10.out) (by repeat (first | (with_reducible first | exact HB.out | apply below_alloc | apply pw_below_drewN | apply below_drew1 | refine below_set ?_ GE820.out) | exact HB.out))).mono ?_); rintro e w13 ⟨rfl, hb⟩; have n0_ := Aside0.mk (Kd.R_below (by (with_reducible repeat (first | apply Kd.R_alloc | apply Kd.R_drewN | apply Kd.R_drew)); exact HO_5.out) hb); have n1_ := Aside0.mk (blk_below (g := gb820) (o := .cells #[.slice A0_0 l0_0.length c0_0] 28 (0, 0)) (by (with_reducible repeat (first | refine blk_drewN ?_ _ | refine blk_drew ?_ | refine blk_alloc ?_ _)); exact BK820.out) hb); have n2_ := Aside0.mk (below_step (by repeat (first | (with_reducible first | exact HB.out | apply below_alloc | apply pw_below_drewN | apply below_drew1 | refine below_set ?_ GE820.out) | exact HB.out)) hb); clear HO_5; clear BK820; clear HB; have HO_5 := n0_; have BK820 := n1_; have HB := n2_; clear n0_ n1_ n2_; (try clear hb); (try clear hb2); (try clear hk); (try clear hi)) | ((with_reducible refine gate_builtin (b := .append) (xs := #[.tmp 17, .tmp 19]) rfl ?_); at_builtin; refine Kd.R_append (Kd.int .i64) (w0 := w) w.heap.size rfl (.tmp 17) (.tmp 19) 22 3 (.int .i64 0) 8 rfl Try.underlying22 info3 rfl (by decide) (by omega) u5 x5_1 x11_1 [.int .i64 x11_1] (fun _ => True) (fun _ => False) rfl rfl ?aP (fun _ hk => hk.elim) ?aF ?aO ?aB ?aS ?aL ?_; (case aP => exact rfl); (case aB => exact (by repeat (first | (with_reducible first | exact HB.out | apply below_alloc | apply pw_below_drewN | apply below_drew1 | refine below_set ?_ GE820.out) | exact HB.out))); (case aF => exact (fun _ _ => trivial)); (case aO => exact (by (with_reducible repeat (first | apply Kd.R_alloc | apply Kd.R_drewN | apply Kd.R_drew)); exact HO_5.out)); (case aS => exact (below_size (by repeat (first | (with_reducible first | exact HB.out | apply below_alloc | apply pw_below_drewN | apply below_drew1 | refine below_set ?_ GE820.out) | exact HB.out)))); (case aL => have := LMc12.out; omega); intro v827 w14 ho hb hg hat; rw [← Ny826.out] at ho; have n0_ := Aside0.mk (blk_grown (g := gb820) (o := .cells #[.slice A0_0 l0_0.length c0_0] 28 (0, 0)) (by (with_reducible repeat (first | refine blk_drewN ?_ _ | refine blk_drew ?_ | refine blk_alloc ?_ _)); exact BK820.out) hg (Kd.R_ne HO_5.out BK820.out (by decide))); have n1_ := Aside0.mk (hb); have n2_ := Aside0.mk (ho); clear BK820; clear HB; clear HO_5; have BK820 := n0_; have HB := n1_; have HO828 := n2_; clear n0_ n1_ n2_; clear ho hb hg hat))
            go_roundg k1
            case measure => have := HK1.out; omega
            case rel => exact ⟨(y826), (wrap64 (x11_1 + 1)), (by first | rfl | (simp; done) | (simp [*]; done)), H', ⟨by have := HK1.out; omega⟩, ⟨by (with_reducible repeat (first | apply Kd.R_alloc | apply Kd.R_drewN | apply Kd.R_drew)); exact HO828.out⟩, ⟨by (with_reducible repeat (first | refine blk_drewN ?_ _ | refine blk_drew ?_ | refine blk_alloc ?_ _)); exact BK820.out⟩, ⟨by repeat (first | (with_reducible first | exact HB.out | apply below_alloc | apply pw_below_drewN | apply below_drew1 | refine below_set ?_ GE820.out) | exact HB.out)⟩⟩
          · rw [if_neg c12] at H
            exact absurd H (by simp)
        · replace c11 := Bool.eq_false_iff.mpr c11
          subst c11
          have H1 : (impl_Poset_sets.l0 k1 x5_1 (wrap64 (t824 + 1)) (wrap64 (x11_1 + 1))) = some r := by rw [if_neg (show ¬ (false = true) by decide)] at H; exact H
          clear H
          have H := H1
          clear H1
          have H' := Aside0.mk H
          clear H
          go_wp2_with (first | (go_at_fn gF; (with_reducible refine (Fv.calls (HP.out _ _ A10.out) (by repeat (first | (with_reducible first | exact HB.out | apply below_alloc | apply pw_below_drewN | apply below_drew1 | refine below_set ?_ GE820.out) | exact HB.out))).mono ?_); rintro e w15 ⟨rfl, hb⟩; have n0_ := Aside0.mk (Kd.R_below (by (with_reducible repeat (first | apply Kd.R_alloc | apply Kd.R_drewN | apply Kd.R_drew)); exact HO_5.out) hb); have n1_ := Aside0.mk (blk_below (g := gb820) (o := .cells #[.slice A0_0 l0_0.length c0_0] 28 (0, 0)) (by (with_reducible repeat (first | refine blk_drewN ?_ _ | refine blk_drew ?_ | refine blk_alloc ?_ _)); exact BK820.out) hb); have n2_ := Aside0.mk (below_step (by repeat (first | (with_reducible first | exact HB.out | apply below_alloc | apply pw_below_drewN | apply below_drew1 | refine below_set ?_ GE820.out) | exact HB.out)) hb); clear HO_5; clear BK820; clear HB; have HO_5 := n0_; have BK820 := n1_; have HB := n2_; clear n0_ n1_ n2_; (try clear hb); (try clear hb2); (try clear hk); (try clear hi)))
          go_roundg k1
          case measure => have := HK1.out; omega
          case rel => exact ⟨(x5_1), (wrap64 (x11_1 + 1)), (by first | rfl | (simp; done) | (simp [*]; done)), H', ⟨by have := HK1.out; omega⟩, ⟨by (with_reducible repeat (first | apply Kd.R_alloc | apply Kd.R_drewN | apply Kd.R_drew)); exact HO_5.out⟩, ⟨by (with_reducible repeat (first | refine blk_drewN ?_ _ | refine blk_drew ?_ | refine blk_alloc ?_ _)); exact BK820.out⟩, ⟨by repeat (first | (with_reducible first | exact HB.out | apply below_alloc | apply pw_below_drewN | apply below_drew1 | refine below_set ?_ GE820.out) | exact HB.out)⟩⟩
      · rw [if_neg c9] at H
        have c9b0 : decide (x11_1 < (wrap64 (t824 + 1))) = false := decide_eq_false c9
        clear c9
        obtain rfl := Option.some.inj H
        go_wp2
        go_ret
        exact ⟨_, by first | rfl | (simp [errW_none, errW_some] <;> rfl) | (simp [*, errW_none, errW_some] <;> rfl), by (with_reducible repeat (first | apply Kd.R_alloc | apply Kd.R_drewN | apply Kd.R_drew)); exact HO_5.out, by repeat (first | (with_reducible first | exact HB.out | apply below_alloc | apply pw_below_drewN | apply below_drew1 | refine below_set ?_ GE820.out) | exact HB.out)⟩
end Go.Proofs.Ytpdgiinedbdamaa.L
end
section
namespace Go.Proofs.Ytpdgiinedbdamaa.L
open Go.RowKit Go.Proofs.YtpdgiinedbdamaaW.PrintWords Go.Proofs.YtpdgiinedbdamaaW.PrintLast Go.Proofs.YtpdgiinedbdamaaW.PrintMore
attribute [local go_sem] max2_int min2_int max_two min_two max_three min_three max_four min_four
set_option linter.unusedVariables false
set_option linter.unusedSimpArgs false
@[reducible] def impl_Poset_ideals.inst (k : Nat) (l0 : List Int) : Fn1 := ⟨fun s => (impl_Poset_close.f k l0 s).map (· == s)⟩
def impl_Poset_ideals.f (k : Nat) (l0_0 : List Int) : Option (List Int) := @impl_Poset_sets.f (impl_Poset_ideals.inst k l0_0) k l0_0 0
theorem impl_Poset_ideals.mono_i (i i' : Fn1) (hi : ∀ s, LeO (i.p s) (i'.p s)) : ∀ k y0 y1 y2, LeO (@impl_Poset_sets.l0 i k y0 y1 y2) (@impl_Poset_sets.l0 i' k y0 y1 y2)
  | 0, _, _, _ => fun r h => by cases h
  | k + 1, y0, y1, y2 => by
    rw [@impl_Poset_sets.l0.eq_2 i, @impl_Poset_sets.l0.eq_2 i']
    exact LeO.ite (LeO.bind (hi _) (fun t => LeO.ite (LeO.ite (impl_Poset_ideals.mono_i i i' hi k _ _ _) (LeO.refl _)) (impl_Poset_ideals.mono_i i i' hi k _ _ _))) (LeO.refl _)
theorem impl_Poset_ideals.mono : ∀ a0 k, LeO (impl_Poset_ideals.f k a0) (impl_Poset_ideals.f (k + 1) a0) := by
  intro l0 k
  refine LeO.trans (@impl_Poset_sets.mono (impl_Poset_ideals.inst k l0) _ _ k) ?_
  unfold impl_Poset_sets.f
  refine LeO.bind (LeO.refl _) (fun t => impl_Poset_ideals.mono_i _ _ (fun s r h => ?_) _ _ _ _)
  obtain ⟨v, hv, e⟩ := Option.map_eq_some_iff.mp h
  exact Option.map_eq_some_iff.mpr ⟨v, impl_Poset_close.mono _ _ _ _ hv, e⟩
open Go.Proofs.Ytpdgiinedbdamaa.X in
set_option maxHeartbeats 800000 in
set_option maxRecDepth 100000 in
theorem impl_Poset_ideals.lit (k : Nat) (A0 : Option Addr) (c0 : Nat) (l0 : List Int) (s : Int) (t : Bool) (B : Nat) (w : World) (hr0 : Kd.C (Kd.int .i64) w A0 l0.length l0) (hc0 : l0.length ≤ c0) (hB : B < w.heap.size) (hc : w.cell? ⟨B, 0, none⟩ = some (.slice A0 l0.length c0)) (h : (impl_Poset_ideals.inst k l0).p s = some t) :
    Fv Try.prog 124 #[.pointer (some ⟨B, 0, none⟩)] #[.int .i64 s] (.bool t) w := by
  intro W hb
  have hc' : W.cell? ⟨B, 0, none⟩ = some (.slice A0 l0.length c0) := (hb.cell (p := ⟨B, 0, none⟩) hB).trans hc
  obtain ⟨v, hv, rfl⟩ := Option.map_eq_some_iff.mp h
  have HV := Aside0.mk hv
  have HR := Aside0.mk (Kd.C_below hr0 hb)
  have HC := Aside0.mk hc0
  clear h hv hr0 hb hc hc0
  have hu := Try.underlying28
  go_enter Try.func124, Try.ntmps124
  go_wp2_with (go_at_call 125; (with_reducible refine (impl_Poset_close.calls k _ _ l0 s v _ HR.out HC.out HV.out).mono ?_); rintro e w1 ⟨rfl, hb⟩)
  go_ret
  exact ⟨rfl, hb⟩
open Go.Proofs.Ytpdgiinedbdamaa.X in
set_option maxHeartbeats 800000 in
set_option maxRecDepth 100000 in
theorem impl_Poset_ideals.calls (k : Nat) (A0_0 : Option Addr) (c0_0 : Nat) (l0_0 : List Int) (r : List Int) (w : World) (hr0_0 : Kd.C (Kd.int .i64) w A0_0 l0_0.length l0_0) (hc0_0 : l0_0.length ≤ c0_0) (h : impl_Poset_ideals.f k l0_0 = some r) :
    Calls Try.prog 81 #[.agg #[.slice A0_0 l0_0.length c0_0]] w fun e w' => ∃ v0_ : Value, e = .returned (v0_) ∧ Kd.R (Kd.int .i64) 3 w' w.heap.size (fun _ => True) v0_ r ∧ Below w.heap.size w w' := by
  unfold impl_Poset_ideals.f at h
  have HF := Aside0.mk h
  have HR := Aside0.mk hr0_0
  have HC := Aside0.mk hc0_0
  clear h hr0_0 hc0_0
  have hu := Try.underlying28
  go_enter Try.func81, Try.ntmps81
  go_wp2_with fail
  have B0 := Aside0.mk (below_alloc (Below.refl w.heap.size w) (.cells #[.slice A0_0 l0_0.length c0_0] 28))
  refine (@impl_Poset_sets.calls (impl_Poset_ideals.inst k l0_0) 124 #[.pointer (some ⟨w.heap.size, 0, none⟩)] (enters_ Try.func124 (by kernel_rfl) rfl) k _ _ l0_0 0 r _ (Kd.C_below HR.out B0.out) HC.out (fun s b hb => impl_Poset_ideals.lit k A0_0 c0_0 l0_0 s b w.heap.size _ (Kd.C_below HR.out B0.out) HC.out (by simp) (by simp) hb) HF.out).mono ?_
  rintro e w2 ⟨v0, rfl, hR, hb⟩
  have hR2 := Kd.R_lower hR (show w.heap.size ≤ _ by simp)
  have B2 := Aside0.mk (below_to B0.out hb)
  have HO := Aside0.mk hR2
  clear hR hR2 hb
  go_wp2
  go_ret
  exact ⟨_, rfl, HO.out, B2.out⟩
end Go.Proofs.Ytpdgiinedbdamaa.L
end
section
namespace Go.Proofs.Ytpdgiinedbdamaa.L
open Go.RowKit Go.Proofs.YtpdgiinedbdamaaW.PrintWords Go.Proofs.YtpdgiinedbdamaaW.PrintLast Go.Proofs.YtpdgiinedbdamaaW.PrintMore
attribute [local go_sem] max2_int min2_int max_two min_two max_three min_three max_four min_four
set_option linter.unusedVariables false
set_option linter.unusedSimpArgs false
def impl_FixedByRowvacuation.p (k : Nat) (l0 wd : List Int) (x : Int) : Bool := ((impl_Poset_toggleRanks.f k l0 x wd).getD 0) != x
def impl_FixedByRowvacuation.ok (k : Nat) (l0 wd s : List Int) : Bool := s.all fun x => (impl_Poset_toggleRanks.f k l0 x wd).isSome
def impl_FixedByRowvacuation.f (k : Nat) (l0 : List Int) : Option (List Int × Bool) := (impl_isRanked.f k l0).bind fun t => if t = true then (impl_Poset_high.f k l0).bind fun h => (impl_vacuation.f k h).bind fun wd => (impl_Poset_ideals.f k l0).bind fun s => if s.length ≤ 9223372036854775806 ∧ impl_FixedByRowvacuation.ok k l0 wd s = true then some (s.filter (fun x => !impl_FixedByRowvacuation.p k l0 wd x), true) else none else some ([], false)
theorem impl_FixedByRowvacuation.ok_at {k : Nat} {l0 wd s : List Int} (h : impl_FixedByRowvacuation.ok k l0 wd s = true) (x : Int) (hx : x ∈ s) : ∃ v, impl_Poset_toggleRanks.f k l0 x wd = some v := by
  unfold impl_FixedByRowvacuation.ok at h
  rw [List.all_eq_true] at h
  exact Option.isSome_iff_exists.mp (h x hx)
theorem impl_FixedByRowvacuation.mono : ∀ a0 k, LeO (impl_FixedByRowvacuation.f k a0) (impl_FixedByRowvacuation.f (k + 1) a0) := by
  intro l0 k
  unfold impl_FixedByRowvacuation.f
  refine LeO.bind (impl_isRanked.mono _ _) fun t => LeO.ite (LeO.bind (impl_Poset_high.mono _ _) fun h => LeO.bind (impl_vacuation.mono _ _) fun wd => LeO.bind (impl_Poset_ideals.mono _ _) fun s => ?_) (LeO.refl _)
  intro r h
  split at h
  · rename_i hc
    obtain rfl := Option.some.inj h
    have hm : ∀ x, x ∈ s → ∀ v, impl_Poset_toggleRanks.f k l0 x wd = some v → impl_Poset_toggleRanks.f (k + 1) l0 x wd = some v := fun x _ v hv => impl_Poset_toggleRanks.mono _ _ _ k v hv
    rw [if_pos]
    · refine congrArg (fun q => some (q, true)) (List.filter_congr fun x hx => ?_)
      obtain ⟨v, hv⟩ := impl_FixedByRowvacuation.ok_at hc.2 x hx
      unfold impl_FixedByRowvacuation.p
      rw [hv, hm x hx v hv]
    · refine ⟨hc.1, ?_⟩
      unfold impl_FixedByRowvacuation.ok
      rw [List.all_eq_true]
      intro x hx
      obtain ⟨v, hv⟩ := impl_FixedByRowvacuation.ok_at hc.2 x hx
      rw [hm x hx v hv]
      rfl
  · cases h
open Go.Proofs.Ytpdgiinedbdamaa.X in
set_option maxHeartbeats 800000 in
set_option maxRecDepth 100000 in
theorem impl_FixedByRowvacuation.lit (k : Nat) (A0 : Option Addr) (c0 : Nat) (l0 : List Int) (A2 : Option Addr) (c2 : Nat) (wd : List Int) (s v : Int) (B1 B2 : Nat) (w : World) (hr0 : Kd.C (Kd.int .i64) w A0 l0.length l0) (hc0 : l0.length ≤ c0) (hr2 : Kd.C (Kd.int .i64) w A2 wd.length wd) (hc2 : wd.length ≤ c2)
    (q1 : w.cell? ⟨B1, 0, none⟩ = some (.slice A0 l0.length c0)) (q2 : w.cell? ⟨B2, 0, none⟩ = some (.slice A2 wd.length c2)) (h : impl_Poset_toggleRanks.f k l0 s wd = some v) :
    Fv Try.prog 82 #[.pointer (some ⟨B1, 0, none⟩), .pointer (some ⟨B2, 0, none⟩)] #[.int .i64 s] (.bool (impl_FixedByRowvacuation.p k l0 wd s)) w := by
  intro W hb
  have p1 := pw_cell_below hb q1
  have p2 := pw_cell_below hb q2
  have HR := Aside0.mk (Kd.C_below hr0 hb)
  have HR2 := Aside0.mk (Kd.C_below hr2 hb)
  have HC := Aside0.mk hc0
  have HC2 := Aside0.mk hc2
  have HV := Aside0.mk h
  have e1 : impl_FixedByRowvacuation.p k l0 wd s = (v != s) := by unfold impl_FixedByRowvacuation.p; rw [h]; rfl
  rw [e1]
  clear h hr0 hr2 hb hc0 hc2 q1 q2 e1
  have hu := Try.underlying28
  go_enter Try.func82, Try.ntmps82
  go_wp2_with fail
  refine (impl_Poset_toggleRanks.calls k _ _ l0 s _ _ wd v _ HR.out HC.out HR2.out HC2.out HV.out).mono ?_
  rintro e w1 ⟨rfl, hb⟩
  have B1 := Aside0.mk hb
  clear hb
  by_cases hq : v = s
  · subst hq
    go_wp2
    go_ret
    exact ⟨by simp, B1.out⟩
  · have hq1 : decide (v = s) = false := decide_eq_false hq
    have hq2 : (v == s) = false := beq_eq_false_iff_ne.mpr hq
    have hq3 : (v != s) = true := by rw [bne, hq2]; rfl
    have HQ := Aside0.mk hq3
    go_wp2
    go_ret
    exact ⟨by rw [HQ.out]; rfl, B1.out⟩
open Go.Proofs.Ytpdgiinedbdamaa.X in
set_option maxHeartbeats 1600000 in
set_option maxRecDepth 100000 in
theorem impl_FixedByRowvacuation.calls (k : Nat) (A0_0 : Option Addr) (c0_0 : Nat) (l0_0 : List Int) (r1 : List Int) (r2 : Bool) (w : World) (hr0_0 : Kd.C (Kd.int .i64) w A0_0 l0_0.length l0_0) (hc0_0 : l0_0.length ≤ c0_0) (h : impl_FixedByRowvacuation.f k l0_0 = some (r1, r2)) :
    Calls Try.prog 37 #[.agg #[.slice A0_0 l0_0.length c0_0]] w fun e w' => ∃ v0_ : Value, e = .returned (.tuple #[v0_, .bool r2]) ∧ Kd.R (Kd.int .i64) 3 w' w.heap.size (fun _ => True) v0_ r1 ∧ Below w.heap.size w w' := by
  have HR := Aside0.mk hr0_0
  have HC := Aside0.mk hc0_0
  clear hr0_0 hc0_0
  unfold impl_FixedByRowvacuation.f at h
  obtain ⟨t, ht, h⟩ := Option.bind_eq_some_iff.mp h
  have HT := Aside0.mk ht
  clear ht
  have hu := Try.underlying28
  have B0 := Aside0.mk (below_alloc (Below.refl w.heap.size w) (.cells #[.slice A0_0 l0_0.length c0_0] 28))
  cases t with
  | false =>
    have h' : some (([] : List Int), false) = some (r1, r2) := h
    injection h' with h'
    injection h' with h1 h2
    subst h1 h2
    clear h
    go_enter Try.func37, Try.ntmps37
    go_wp2_with fail
    refine (impl_isRanked.calls k _ _ l0_0 false _ (Kd.C_below HR.out B0.out) HC.out HT.out).mono ?_
    rintro e w1 ⟨rfl, hb⟩
    have B1 := Aside0.mk (below_to B0.out hb)
    clear hb
    go_wp2
    go_ret2
    exact ⟨_, rfl, Kd.R_nil _ _ _ _ _, B1.out⟩
  | true =>
    rw [if_pos rfl] at h
    obtain ⟨hi, hhi, h⟩ := Option.bind_eq_some_iff.mp h
    obtain ⟨wd, hwd, h⟩ := Option.bind_eq_some_iff.mp h
    obtain ⟨s, hs, h⟩ := Option.bind_eq_some_iff.mp h
    split at h
    · rename_i hc
      injection h with h
      injection h with h1 h2
      have HH := Aside0.mk hhi
      have HW := Aside0.mk hwd
      have HS := Aside0.mk hs
      have HO := Aside0.mk hc
      have HE := Aside0.mk h1
      subst h2
      clear hhi hwd hs hc h1
      go_enter Try.func37, Try.ntmps37
      go_wp2_with fail
      refine (impl_isRanked.calls k _ _ l0_0 true _ (Kd.C_below HR.out B0.out) HC.out HT.out).mono ?_
      rintro e w1 ⟨rfl, hb⟩
      have x1 := pw_cell_below hb (show (w.alloc (.cells #[.slice A0_0 l0_0.length c0_0] 28)).cell? ⟨w.heap.size, 0, none⟩ = some (.slice A0_0 l0_0.length c0_0) by simp)
      have B1 := Aside0.mk (below_to B0.out hb)
      clear hb
      go_wp2_with fail
      refine (impl_Poset_high.calls k _ _ l0_0 hi _ (Kd.C_below HR.out B1.out) HC.out HH.out).mono ?_
      rintro e w2 ⟨rfl, hb⟩
      have x2 := Aside0.mk (pw_cell_below hb x1)
      have B2 := Aside0.mk (below_to B1.out hb)
      clear hb x1
      go_wp2_with fail
      refine (impl_vacuation.calls k hi wd _ HW.out).mono ?_
      rintro e w3 ⟨v0, rfl, hR, hb⟩
      obtain ⟨A2, c2, rfl, hl2, hC2⟩ := Kd.R_reads hR
      have x3 := Aside0.mk (pw_cell_below hb x2.out)
      have B3 := Aside0.mk (below_to B2.out hb)
      have C3 := Aside0.mk hC2
      have L3 := Aside0.mk hl2
      clear hb x2 hR hC2 hl2
      have x4 : ∀ o, (World.alloc w3 o).cell? ⟨w.heap.size, 0, none⟩ = some (.slice A0_0 l0_0.length c0_0) := fun o => pw_cell_below (below_alloc (Below.refl w3.heap.size w3) o) x3.out
      go_wp2_with fail
      obtain ⟨W4, hW4⟩ : ∃ W4, W4 = w3.alloc (.cells #[.slice A2 wd.length c2] 22) := ⟨_, rfl⟩
      rw [← hW4]
      have B4 := Aside0.mk (show Below w.heap.size w W4 by rw [hW4]; exact below_alloc B3.out _)
      have C4 := Aside0.mk (show Kd.C (Kd.int .i64) W4 A2 wd.length wd by rw [hW4]; exact Kd.C_alloc C3.out _)
      have y1 := Aside0.mk (show W4.cell? ⟨w.heap.size, 0, none⟩ = some (.slice A0_0 l0_0.length c0_0) by rw [hW4]; exact x4 _)
      have y2 := Aside0.mk (show W4.cell? ⟨w3.heap.size, 0, none⟩ = some (.slice A2 wd.length c2) by rw [hW4]; simp)
      generalize w3.heap.size = b3 at y2 ⊢
      clear hW4 x4 x3 C3 B3
      refine (impl_Poset_ideals.calls k _ _ l0_0 s _ (Kd.C_below HR.out B4.out) HC.out HS.out).mono ?_
      rintro e w5 ⟨v1, rfl, hR1, hb1⟩
      have R5 := Aside0.mk hR1
      have B5 := Aside0.mk hb1
      clear hR1 hb1
      go_wp2_with fail
      refine (slices_DeleteFunc.calls v1 s 82 #[.pointer (some ⟨w.heap.size, 0, none⟩), .pointer (some ⟨b3, 0, none⟩)] (impl_FixedByRowvacuation.p k l0_0 wd) W4 _ (enters_ Try.func82 (by kernel_rfl) rfl) B5.out R5.out HO.out.1 (fun x hx => ?_)).mono ?_
      · obtain ⟨v, hv⟩ := impl_FixedByRowvacuation.ok_at HO.out.2 x hx
        exact impl_FixedByRowvacuation.lit k A0_0 c0_0 l0_0 A2 c2 wd x v _ _ W4 (Kd.C_below HR.out B4.out) HC.out C4.out L3.out y1.out y2.out hv
      rintro e w6 ⟨v2, rfl, hR2, hb2⟩
      have R6 := Aside0.mk (Kd.R_lower hR2 (show w.heap.size ≤ W4.heap.size from B4.out.size))
      have B6 := Aside0.mk (below_to B4.out hb2)
      clear hR2 hb2
      go_wp2
      go_ret2
      exact ⟨_, rfl, by rw [← HE.out]; exact R6.out, B6.out⟩
    · cases h
end Go.Proofs.Ytpdgiinedbdamaa.L
end
