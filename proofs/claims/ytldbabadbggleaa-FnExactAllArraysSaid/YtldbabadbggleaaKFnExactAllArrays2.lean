/- Laws about the given program: the law FnExactAllArrays answers true for every input that its row lets in; no condition is added to the given statement. Contracts of the Go functions that it reaches, and the plain proof over lists. -/
import Derived.Test.YtldbabadbggleaaWFnExactAllArrays0
import Derived.Test.YtldbabadbggleaaKFnExactAllArrays0
import Derived.Test.YtldbabadbggleaaKFnExactAllArrays1
section
namespace Go.Proofs.Ytldbabadbggleaa.L
open Go.RowKit Go.Proofs.YtldbabadbggleaaW.PrintWords Go.Proofs.YtldbabadbggleaaW.PrintLast Go.Proofs.YtldbabadbggleaaW.PrintMore
attribute [local go_sem] max2_int min2_int max_two min_two max_three min_three max_four min_four
set_option linter.unusedVariables false
set_option linter.unusedSimpArgs false
def impl_Poset_labels.least (F : List Int) : List Int → Int → Option Int
  | [], a => some a
  | j :: js, a => if 0 ≤ j ∧ j < (F.length : Int) then impl_Poset_labels.least F js (mx a (rd F j)) else none
def impl_Poset_labels.loop (put : List Int → List (List Int) → Option (List Int × List (List Int))) (i m : Int) : Nat → Int → List Int → List (List Int) → Option (List Int × List (List Int))
  | 0, kk, F, O => if kk ≤ m then none else some (F, O)
  | n + 1, kk, F, O => if kk ≤ m then (if 0 ≤ i ∧ i < (F.length : Int) then (put (F.set i.toNat kk) O).bind fun t => impl_Poset_labels.loop put i m n (wrap64 (kk + 1)) t.1 t.2 else none) else some (F, O)
def impl_Poset_labels.put (k : Nat) (l0 : List Int) (m : Int) : Nat → Int → List Int → List (List Int) → Option (List Int × List (List Int))
  | 0, i, F, O => if i = (l0.length : Int) then (if F.length < 17592186044416 ∧ O.length < 5864062014805 then some (F, O ++ [F]) else none) else none
  | d + 1, i, F, O => if i = (l0.length : Int) then (if F.length < 17592186044416 ∧ O.length < 5864062014805 then some (F, O ++ [F]) else none) else
      if 0 ≤ i ∧ i < (l0.length : Int) then (impl_items.f k (rd l0 i)).bind fun js => if js.length ≤ 9223372036854775806 then (impl_Poset_labels.least F js 0).bind fun lo => impl_Poset_labels.loop (impl_Poset_labels.put k l0 m d (wrap64 (i + 1))) i m (m + 1 - lo).toNat lo F O else none else none
def impl_Poset_labels.f (k : Nat) (l0_0 : List Int) (a1 : Int) : Option (List (List Int)) :=
  if l0_0.length ≤ 35184372088832 then (impl_Poset_labels.put k l0_0 a1 l0_0.length 0 (List.replicate l0_0.length 0) []).map (·.2) else none
theorem impl_Poset_labels.loop_mono {p q : List Int → List (List Int) → Option (List Int × List (List Int))} (h : ∀ F O, LeO (p F O) (q F O)) (i m : Int) : ∀ n kk F O, LeO (impl_Poset_labels.loop p i m n kk F O) (impl_Poset_labels.loop q i m n kk F O)
  | 0, _, _, _ => LeO.refl _
  | n + 1, kk, F, O => by
    rw [impl_Poset_labels.loop, impl_Poset_labels.loop]
    exact LeO.ite (LeO.ite (LeO.bind (h _ _) fun t => impl_Poset_labels.loop_mono h i m n _ _ _) (LeO.refl _)) (LeO.refl _)
theorem impl_Poset_labels.put_mono (k : Nat) (l0 : List Int) (m : Int) : ∀ d i F O, LeO (impl_Poset_labels.put k l0 m d i F O) (impl_Poset_labels.put (k + 1) l0 m d i F O)
  | 0, _, _, _ => LeO.refl _
  | d + 1, i, F, O => by
    rw [impl_Poset_labels.put, impl_Poset_labels.put]
    exact LeO.ite (LeO.refl _) (LeO.ite (LeO.bind (impl_items.mono _ _) fun js => LeO.ite (LeO.bind (LeO.refl _) fun lo => impl_Poset_labels.loop_mono (fun F O => impl_Poset_labels.put_mono k l0 m d _ F O) _ _ _ _ _ _) (LeO.refl _)) (LeO.refl _))
theorem impl_Poset_labels.mono : ∀ a0 a1 k, LeO (impl_Poset_labels.f k a0 a1) (impl_Poset_labels.f (k + 1) a0 a1) := by
  intro l0 a1 k
  unfold impl_Poset_labels.f
  refine LeO.ite (fun r h => ?_) (LeO.refl _)
  obtain ⟨v, hv, e⟩ := Option.map_eq_some_iff.mp h
  exact Option.map_eq_some_iff.mpr ⟨v, impl_Poset_labels.put_mono _ _ _ _ _ _ _ _ hv, e⟩
def impl_Poset_labels.okO (Bp Bo Bf Bm Bq : Nat) (vF : Value) (k : Nat) : Prop := k ≠ Bp ∧ k ≠ Bo ∧ k ≠ Bf ∧ k ≠ Bm ∧ k ≠ Bq ∧ some k ≠ vF.ownBlock
structure impl_Poset_labels.Inv (w0 W : World) (A0 : Option Addr) (n c0 : Nat) (m : Int) (Bp Bo Bf Bm Bq : Nat) (vF : Value) (F : List Int) (O : List (List Int)) (vO : Value) : Prop where
  below : Below w0.heap.size w0 W
  bp : W.heap[Bp]? = some (.cells #[.slice A0 n c0] 29 (0, 0))
  bo : W.heap[Bo]? = some (.cells #[vO] 26 (0, 0))
  bf : W.heap[Bf]? = some (.cells #[vF] 22 (0, 0))
  bm : W.heap[Bm]? = some (.cells #[.int .i64 m] 3 (0, 0))
  bq : W.heap[Bq]? = some (.cells #[.func (.func 55) #[] #[.pointer (some ⟨Bp, 0, none⟩), .pointer (some ⟨Bo, 0, none⟩), .pointer (some ⟨Bf, 0, none⟩), .pointer (some ⟨Bm, 0, none⟩), .pointer (some ⟨Bq, 0, none⟩)]] 61 (0, 0))
  so : Kd.S (Kd.slice 3 (Kd.int .i64)) 22 W w0.heap.size (impl_Poset_labels.okO Bp Bo Bf Bm Bq vF) vO O
  rf : Kd.R (Kd.int .i64) 3 W w0.heap.size (fun k => some k = vF.ownBlock) vF F
  nm : some Bm ≠ vF.ownBlock
  go : w0.heap.size ≤ Bo
open Go.Proofs.Ytldbabadbggleaa.X in
theorem impl_Poset_labels.Inv.step {w0 W W2 : World} {A0 : Option Addr} {n c0 : Nat} {m : Int} {Bp Bo Bf Bm Bq : Nat} {vF : Value} {F : List Int} {O : List (List Int)} {vO : Value} (h : impl_Poset_labels.Inv w0 W A0 n c0 m Bp Bo Bf Bm Bq vF F O vO) (hb : Below W.heap.size W W2) : impl_Poset_labels.Inv w0 W2 A0 n c0 m Bp Bo Bf Bm Bq vF F O vO :=
  ⟨below_to h.below hb, blk_below h.bp hb, blk_below h.bo hb, blk_below h.bf hb, blk_below h.bm hb, blk_below h.bq hb, Kd.S_below h.so hb, Kd.R_below h.rf hb, h.nm, h.go⟩
open Go.Proofs.Ytldbabadbggleaa.X in
theorem impl_Poset_labels.Inv.put {w0 W : World} {A0 : Option Addr} {n c0 gf nf cf : Nat} {m : Int} {Bp Bo Bf Bm Bq : Nat} {F : List Int} {O : List (List Int)} {vO : Value} (h : impl_Poset_labels.Inv w0 W A0 n c0 m Bp Bo Bf Bm Bq (.slice (some ⟨gf, 0, none⟩) nf cf) F O vO) (i kk : Int) :
    impl_Poset_labels.Inv w0 (W.setCell ⟨gf, i.toNat, none⟩ (.int .i64 kk)) A0 n c0 m Bp Bo Bf Bm Bq (.slice (some ⟨gf, 0, none⟩) nf cf) (F.set i.toNat kk) O vO := by
  have ne : ∀ {B : Nat}, some B ≠ (Value.slice (some ⟨gf, 0, none⟩) nf cf).ownBlock → B ≠ gf := fun h e => h (by rw [e]; rfl)
  refine ⟨below_set h.below (Kd.R_base h.rf gf rfl), ?_, ?_, ?_, ?_, ?_, ?_, ?_, h.nm, h.go⟩
  · exact blk_far h.bp (ne (Kd.R_ne h.rf h.bp (by decide))) _
  · exact blk_far h.bo (ne (Kd.R_ne h.rf h.bo (by decide))) _
  · exact blk_far h.bf (ne (Kd.R_ne h.rf h.bf (by decide))) _
  · exact blk_far h.bm (ne h.nm) _
  · exact blk_far h.bq (ne (Kd.R_ne h.rf h.bq (by decide))) _
  · exact Kd.S_far h.so (fun k hk => ne hk.2.2.2.2.2) _
  · exact (Kd.R_putg h.rf i kk).1
open Go.Proofs.Ytldbabadbggleaa.X in
theorem impl_Poset_labels.Inv.push {w0 w1 w2 w3 : World} {A0 : Option Addr} {n c0 : Nat} {m : Int} {Bp Bo Bf Bm Bq : Nat} {vF : Value} {F : List Int} {O : List (List Int)} {Ao A3 : Option Addr} {co c3 : Nat} (h : impl_Poset_labels.Inv w0 w1 A0 n c0 m Bp Bo Bf Bm Bq vF F O (.slice Ao O.length co)) (hB : Below w1.heap.size w1 w2)
    (ho : Kd.S (Kd.slice 3 (Kd.int .i64)) 22 w3 w0.heap.size (impl_Poset_labels.okO Bp Bo Bf Bm Bq vF) (.slice A3 (O ++ [F]).length c3) (O ++ [F])) (hb : Below w0.heap.size w0 w3) (hg : w2.grownBy w3 (Value.slice Ao O.length co).ownBlock) :
    impl_Poset_labels.Inv w0 (w3.setCell ⟨Bo, 0, none⟩ (.slice A3 (O.length + 1) c3)) A0 n c0 m Bp Bo Bf Bm Bq vF F (O ++ [F]) (.slice A3 (O.length + 1) c3) := by
  have e : (O ++ [F]).length = O.length + 1 := by simp
  rw [e] at ho
  refine ⟨below_set hb h.go, ?_, ?_, ?_, ?_, ?_, ?_, ?_, h.nm, h.go⟩
  · exact blk_far (blk_grown (blk_below h.bp hB) hg (Kd.S_away h.so fun _ hk => hk.1)) (show Bp ≠ Bo from blk_ne h.bp h.bo (by decide)) _
  · exact blk_put (blk_grown (blk_below h.bo hB) hg (Kd.S_away h.so fun _ hk => hk.2.1)) 0 _ rfl
  · exact blk_far (blk_grown (blk_below h.bf hB) hg (Kd.S_away h.so fun _ hk => hk.2.2.1)) (show Bf ≠ Bo from blk_ne h.bf h.bo (by decide)) _
  · exact blk_far (blk_grown (blk_below h.bm hB) hg (Kd.S_away h.so fun _ hk => hk.2.2.2.1)) (show Bm ≠ Bo from blk_ne h.bm h.bo (by decide)) _
  · exact blk_far (blk_grown (blk_below h.bq hB) hg (Kd.S_away h.so fun _ hk => hk.2.2.2.2.1)) (show Bq ≠ Bo from blk_ne h.bq h.bo (by decide)) _
  · exact Kd.S_far ho (fun k hk => hk.2.1) _
  · refine Kd.R_far (Kd.R_grown (Kd.R_below h.rf hB) hg (fun k hk e => ((Kd.S_R h.so).1 k e.symm).2.2.2.2.2 hk)) (fun k hk e => ?_) _
    exact Kd.R_ne h.rf h.bo (by decide) (by rw [← hk, e])
open Go.Proofs.Ytldbabadbggleaa.X in
set_option maxHeartbeats 1600000 in
set_option maxRecDepth 100000 in
theorem impl_Poset_labels.lit0 (w0 : World) (A0 : Option Addr) (c0 : Nat) (l0 : List Int) (m : Int) (Bp Bo Bf Bm Bq : Nat) (vF : Value) (hr0 : Kd.C (Kd.int .i64) w0 A0 l0.length l0) (hc0 : l0.length ≤ c0) (F : List Int) (O : List (List Int)) (vO : Value) (W : World) (hI : impl_Poset_labels.Inv w0 W A0 l0.length c0 m Bp Bo Bf Bm Bq vF F O vO) (hl : F.length < 17592186044416 ∧ O.length < 5864062014805) :
    Calls Try.prog 55 #[.int .i64 (l0.length : Int), .pointer (some ⟨Bp, 0, none⟩), .pointer (some ⟨Bo, 0, none⟩), .pointer (some ⟨Bf, 0, none⟩), .pointer (some ⟨Bm, 0, none⟩), .pointer (some ⟨Bq, 0, none⟩)] W fun e W' => e = .returned (.tuple #[]) ∧ ∃ vO', impl_Poset_labels.Inv w0 W' A0 l0.length c0 m Bp Bo Bf Bm Bq vF F (O ++ [F]) vO' := by
  have HR := Aside0.mk hr0
  have HC := Aside0.mk hc0
  have HL := Aside0.mk hl
  have HI := Aside0.mk hI
  have zp := blk_cell hI.bp 0
  clear hr0 hc0 hl hI
  have hu := Try.underlying29
  go_enter Try.func55, Try.ntmps55
  go_wp2_with fail
  refine (impl_Poset_n.calls _ _ l0 _ _ (Kd.C_below HR.out HI.out.below) HC.out rfl).mono ?_
  rintro e w1 ⟨rfl, hb⟩
  have HI1 := Aside0.mk (HI.out.step hb)
  clear hb HI zp
  obtain ⟨Af, cf, eF⟩ := Kd.R_slice HI1.out.rf
  subst eF
  obtain ⟨Ao, co, eO⟩ := Kd.S_slice HI1.out.so
  subst eO
  have zo := blk_cell HI1.out.bo 0
  have zf := blk_cell HI1.out.bf 0
  go_wp2_with fail
  have HCL := Aside0.mk (show slices_Clone_int_int.f F = some F by unfold slices_Clone_int_int.f; rw [if_pos HL.out.1])
  have FR := Aside0.mk (show ∀ k_, w1.heap.size ≤ k_ → impl_Poset_labels.okO Bp Bo Bf Bm Bq (.slice Af F.length cf) k_ ∧ some k_ ≠ (Value.slice Ao O.length co).ownBlock from fun k_ hk => ⟨⟨by have := blk_lt HI1.out.bp; omega, by have := blk_lt HI1.out.bo; omega, by have := blk_lt HI1.out.bf; omega, by have := blk_lt HI1.out.bm; omega, by have := blk_lt HI1.out.bq; omega, fun e => by have := Kd.R_lt HI1.out.rf k_ e.symm; omega⟩, fun e => by have := Kd.S_lt HI1.out.so k_ e.symm; omega⟩)
  have NBF := Aside0.mk (show Bf ≠ Bo from blk_ne HI1.out.bf HI1.out.bo (by decide))
  go_region_law
    (first
      | (rw [if_pos (by rfl)]; go_simp; go_at_call 56; refine (slices_Clone_int_int.calls _ _ F F _ (Kd.C_below (Kd.R_reads' HI1.out.rf).2.2 (below_drew (Below.refl _ _))) (Kd.R_reads' HI1.out.rf).2.1 HCL.out).mono ?_; rintro e w2 ⟨vC, rfl, hC, hb⟩; obtain ⟨Ac, cc, eC⟩ := Kd.R_slice hC; subst eC; have zo2 := pw_cell_below hb zo; have zf2 := pw_cell_below hb zf; have zo2a := pw_cell_below (below_alloc (Below.refl w2.heap.size w2) (.cells #[.slice Ac F.length cc] 22)) zo2; have zf2a := pw_cell_below (below_alloc (Below.refl w2.heap.size w2) (.cells #[.slice Ac F.length cc] 22)) zf2; have B12 := Aside0.mk (show Below w1.heap.size w1 w2 from below_to (below_drew (Below.refl _ _)) hb); have HCC := Aside0.mk (show Kd.R (Kd.int .i64) 3 w2 w1.heap.size (fun _ => True) (.slice Ac F.length cc) F from hC); dsimp only)
      | (refine Kd.S_append_step (Kd.slice 3 (Kd.int .i64)) (w0 := w0) w0.heap.size (by rfl) (.tmp 15) (.tmp 18) 26 22 (.slice none 0 0) 24 (by rfl) Try.underlying26 info22 (by rfl) (by decide) (by omega) (.slice Ao O.length co) O F _ (impl_Poset_labels.okO Bp Bo Bf Bm Bq (.slice Af F.length cf)) (fun k_ => some k_ = (Value.slice Ac F.length cc).ownBlock) (by rfl) (by rfl) (Kd.M_row (Kd.R_tight rfl (Kd.R_lower HCC.out HI1.out.below.size))) (fun k_ e => FR.out k_ (Kd.R_base HCC.out k_ e.symm)) (fun k_ hk => (FR.out k_ (Nat.le_trans B12.out.size hk)).1) (Kd.S_mono (Kd.S_below (Kd.S_bound HI1.out.so) B12.out) (fun k_ hk => ⟨hk.1, fun e => by have h1 := Kd.R_base HCC.out k_ e.symm; have h2 := hk.2.2.1; omega⟩)) (below_to HI1.out.below B12.out) (Nat.le_trans HI1.out.below.size B12.out.size) (by have := HL.out.2; omega) ?_; intro v3 w3 ho3 hb3 hg3 hat3; obtain ⟨A3, c3, e3⟩ := Kd.S_slice ho3; subst e3; have BO3 := Aside0.mk (blk_grown (blk_below HI1.out.bo B12.out) hg3 (Kd.S_away HI1.out.so (fun _ hk => hk.2.1))); have BF3 := Aside0.mk (blk_grown (blk_below HI1.out.bf B12.out) hg3 (Kd.S_away HI1.out.so (fun _ hk => hk.2.2.1))); have zo3 := blk_cell BO3.out 0; have zf3 := blk_cell BF3.out 0; have fz3 := blk_frozen BO3.out 0; have zf4 := blk_cell (blk_far BF3.out (p := ⟨Bo, 0, none⟩) NBF.out (.slice A3 (O ++ [F]).length c3)) 0))
  all_goals
    go_wp2
    ((try simp only [Exit.inBlock, Exit.then]); refine bodyPost_ret (results_none rfl _ _ _) rfl ?_)
    exact ⟨rfl, _, HI1.out.push B12.out ho3 hb3 hg3⟩
open Go.Proofs.Ytldbabadbggleaa.X in
set_option maxHeartbeats 3200000 in
set_option maxRecDepth 100000 in
theorem impl_Poset_labels.lit (k : Nat) (w0 : World) (A0 : Option Addr) (c0 : Nat) (l0 : List Int) (m : Int) (Bp Bo Bf Bm Bq : Nat) (vF : Value) (hr0 : Kd.C (Kd.int .i64) w0 A0 l0.length l0) (hc0 : l0.length ≤ c0) : ∀ (d : Nat) (i : Int) (F : List Int) (O : List (List Int)) (F' : List Int) (O' : List (List Int)) (vO : Value) (W : World), impl_Poset_labels.Inv w0 W A0 l0.length c0 m Bp Bo Bf Bm Bq vF F O vO → impl_Poset_labels.put k l0 m d i F O = some (F', O') →
    Calls Try.prog 55 #[.int .i64 i, .pointer (some ⟨Bp, 0, none⟩), .pointer (some ⟨Bo, 0, none⟩), .pointer (some ⟨Bf, 0, none⟩), .pointer (some ⟨Bm, 0, none⟩), .pointer (some ⟨Bq, 0, none⟩)] W fun e W' => e = .returned (.tuple #[]) ∧ ∃ vO', impl_Poset_labels.Inv w0 W' A0 l0.length c0 m Bp Bo Bf Bm Bq vF F' O' vO' := by
  intro d
  induction d with
  | zero =>
    intro i F O F' O' vO W hI h
    rw [impl_Poset_labels.put] at h
    split at h
    · rename_i hi
      split at h
      · rename_i hl
        injection h with h
        injection h with h1 h2
        subst h1 h2 hi
        exact impl_Poset_labels.lit0 w0 A0 c0 l0 m Bp Bo Bf Bm Bq vF hr0 hc0 F O vO W hI hl
      · cases h
    · cases h
  | succ d ih =>
    intro i F O F' O' vO W hI h
    rw [impl_Poset_labels.put] at h
    by_cases hi : i = (l0.length : Int)
    · rw [if_pos hi] at h
      split at h
      · rename_i hl
        injection h with h
        injection h with h1 h2
        subst h1 h2 hi
        exact impl_Poset_labels.lit0 w0 A0 c0 l0 m Bp Bo Bf Bm Bq vF hr0 hc0 F O vO W hI hl
      · cases h
    · rw [if_neg hi] at h
      split at h
      · rename_i hir
        have hn_ := Option.bind_eq_some_iff.mp h
        clear h
        obtain ⟨js, hjs, h⟩ := hn_
        split at h
        · rename_i hjl
          have hn_ := Option.bind_eq_some_iff.mp h
          clear h
          obtain ⟨lo, hlo, h⟩ := hn_
          have IH := Aside0.mk ih
          have HR := Aside0.mk hr0
          have HC := Aside0.mk hc0
          have HJ := Aside0.mk hjs
          have HJL := Aside0.mk hjl
          have HLO := Aside0.mk hlo
          have HF := Aside0.mk h
          have HI := Aside0.mk hI
          have zp := blk_cell hI.bp 0
          clear hr0 hc0 hI hjs hjl hlo h ih
          have hu := Try.underlying29
          have hib : (i == (l0.length : Int)) = false := beq_eq_false_iff_ne.mpr hi
          go_enter Try.func55, Try.ntmps55
          go_wp2_with fail
          refine (impl_Poset_n.calls _ _ l0 _ _ (Kd.C_below HR.out HI.out.below) HC.out rfl).mono ?_
          rintro e w1 ⟨rfl, hb⟩
          have HI1 := Aside0.mk (HI.out.step hb)
          clear hb HI zp
          obtain ⟨Af, cf, eF⟩ := Kd.R_slice HI1.out.rf
          subst eF
          have zp := blk_cell HI1.out.bp 0
          obtain ⟨ad, e1, hx0⟩ := Kd.at_int (Kd.C_below HR.out HI1.out.below) i hir.1 hir.2
          cases e1
          have p1 := hir.1
          have p2 := hir.2
          go_wp2_with fail
          refine (impl_items.calls k _ js _ HJ.out).mono ?_
          rintro e w2 ⟨vJ, rfl, hR, hb⟩
          obtain ⟨AJ, cJ, rfl, hlJ, hCJ⟩ := Kd.R_reads hR
          have HI2 := Aside0.mk (HI1.out.step hb)
          have CJ := Aside0.mk hCJ
          clear hb hR hCJ hlJ HI1 zp hx0
          have zf := blk_cell HI2.out.bf 0
          go_wp2_with fail
          go_loopw [7, 27] (fun v7 v27 wi => ∃ (q : Nat) (a : Int), v27 = .int .i64 q ∧ v7 = .int .i64 a ∧ q ≤ js.length ∧ Aside0 (impl_Poset_labels.least F (js.drop q) a = some lo) ∧ wi = w2) (fun _ v27 _ => js.length - (intOf v27).toNat)
          case atStart => exact ⟨0, 0, rfl, rfl, Nat.zero_le _, ⟨by rw [List.drop_zero]; exact HLO.out⟩, rfl⟩
          case round =>
            obtain ⟨q, a, rfl, rfl, hq, HS, rfl⟩ := hrel
            by_cases hql : q < js.length
            · have hs := HS.out
              rw [List.drop_eq_getElem_cons hql, impl_Poset_labels.least] at hs
              split at hs
              · rename_i hj
                obtain ⟨ad1, e1, hx0⟩ := Kd.at_int CJ.out (q : Int) (by omega) (by omega)
                rw [Int.toNat_natCast] at hx0
                cases e1
                have hx := hx0
                rw [show rd js (q : Int) = js[q] by simp [rd, List.getD_eq_getElem?_getD, hql]] at hx
                obtain ⟨ad2, e2, hy⟩ := Kd.at_int (Kd.R_reads' HI2.out.rf).2.2 js[q] hj.1 hj.2
                cases e2
                obtain ⟨j, hje⟩ : ∃ j, j = js[q] := ⟨_, rfl⟩
                rw [← hje] at hx hy hj hs
                have HS2 := Aside0.mk hs
                have p4 : 0 ≤ ((q : Nat) : Int) := by omega
                have q4 : ((q : Nat) : Int) < (js.length : Int) := by omega
                have p5 := hj.1
                have q5 := hj.2
                have hq1 : q + 1 ≤ js.length := hql
                have e3 : wrap64 ((q : Int) + 1) = ((q + 1 : Nat) : Int) := by have := HJL.out; unfold wrap64; omega
                clear hje hx0 hs HS hj
                go_wp2
                go_roundw
                case rel => exact ⟨q + 1, mx a (rd F j), by first | rw [e3] | rfl, by first | rfl | (congr 1; unfold mx; split <;> omega), hq1, HS2, by first | trivial | rfl⟩
                case measure => (try simp only [e3]); exact (Nat.sub_lt_sub_left hql (Nat.lt_succ_self q) : js.length - (q + 1) < js.length - q)
              · cases hs
            · have hs := HS.out
              rw [List.drop_of_length_le (by omega), impl_Poset_labels.least] at hs
              have hlo := Option.some.inj hs
              subst hlo
              clear HS hs zf
              go_wp2_with fail
              have eg := enters_ Try.func55 (by kernel_rfl) rfl
              obtain ⟨r0, hr0⟩ : ∃ r0, r0 = (m + 1 - a).toNat := ⟨_, rfl⟩
              have HF2 := Aside0.mk (show impl_Poset_labels.loop (impl_Poset_labels.put k l0 m d (wrap64 (i + 1))) i m r0 a F O = some (F', O') by rw [hr0]; exact HF.out)
              clear hr0 HF
              go_loopg [10] r0 (fun kq v10 wl => ∃ (kk : Int) (F1 : List Int) (O1 : List (List Int)) (vO1 : Value), v10 = .int .i64 kk ∧ Aside0 (impl_Poset_labels.loop (impl_Poset_labels.put k l0 m d (wrap64 (i + 1))) i m kq kk F1 O1 = some (F', O')) ∧ Aside0 (kq ≤ r0) ∧ Aside0 (impl_Poset_labels.Inv w0 wl (some ad) l0.length c0 m Bp Bo Bf Bm Bq (.slice Af F.length cf) F1 O1 vO1))
              case atStart => exact ⟨a, F, O, vO, rfl, HF2, ⟨Nat.le_refl _⟩, HI2⟩
              case round =>
                clear HF2 HI2
                obtain ⟨kk, F1, O1, vO1, rfl, HA, HK1, HI⟩ := hrel
                have zm := blk_cell HI.out.bm 0
                by_cases hkm : kk ≤ m
                · have hkb : decide (kk ≤ m) = true := decide_eq_true hkm
                  cases gk with
                  | zero =>
                    have hA := HA.out
                    rw [impl_Poset_labels.loop, if_pos hkm] at hA
                    cases hA
                  | succ k1 =>
                    have hA := HA.out
                    rw [impl_Poset_labels.loop, if_pos hkm] at hA
                    split at hA
                    · rename_i hir2
                      obtain ⟨t, ht, hA⟩ := Option.bind_eq_some_iff.mp hA
                      have HT := Aside0.mk ht
                      have HA2 := Aside0.mk hA
                      obtain ⟨gf, cf2, e5, hgb, hgl, cells, hg⟩ := Kd.R_form HI.out.rf (by omega)
                      injection e5 with e51 hle e53
                      subst e51 e53
                      have zf := blk_cell HI.out.bf 0
                      obtain ⟨ad2, e6, hy⟩ := Kd.at_int (Kd.R_reads' HI.out.rf).2.2 i hir2.1 (by omega)
                      cases e6
                      have hfz := blk_frozen hg i.toNat
                      have p6 : i < (F.length : Int) := by omega
                      have hy2 : wr.cell? ⟨gf, i.toNat, none⟩ = some (.int .i64 (rd F1 i)) := by
                        by_cases h0 : i ≤ 0
                        · have : i = 0 := by omega
                          subst this
                          simpa [Addr.add] using hy
                        · simpa [Addr.add, h0] using hy
                      have HIP := Aside0.mk (HI.out.put i kk)
                      have zq := blk_cell HIP.out.bq 0
                      clear ht hA HA hkm hy
                      go_wp2_with fail
                      refine (IH.out (wrap64 (i + 1)) (F1.set i.toNat kk) O1 t.1 t.2 vO1 _ HIP.out HT.out).mono ?_
                      rintro e w4 ⟨rfl, vO2, hI4⟩
                      have HI4 := Aside0.mk hI4
                      clear hI4 HIP HI zf zm zq hfz hy2 hg
                      go_wp2
                      go_roundg k1
                      case measure => have := HK1.out; omega
                      case rel => exact ⟨wrap64 (kk + 1), t.1, t.2, vO2, rfl, HA2, ⟨by have := HK1.out; omega⟩, HI4⟩
                    · cases hA
                · have hkb : decide (kk ≤ m) = false := decide_eq_false hkm
                  have hA2 : some (F1, O1) = some (F', O') := by
                    have hA := HA.out
                    cases gk with
                    | zero => rw [impl_Poset_labels.loop, if_neg hkm] at hA; exact hA
                    | succ k1 => rw [impl_Poset_labels.loop, if_neg hkm] at hA; exact hA
                  injection hA2 with hA2
                  injection hA2 with h1 h2
                  subst h1 h2
                  clear HA
                  go_wp2
                  go_end0
                  exact ⟨rfl, _, HI.out⟩
        · cases h
      · cases h
theorem impl_Poset_labels.asz (w : World) (o : Obj) : (w.alloc o).heap.size = w.heap.size + 1 := Array.size_push ..
theorem impl_Poset_labels.nsz (w : World) (m : Nat) : (w.drewN m).heap.size = w.heap.size := rfl
theorem impl_Poset_labels.ssz (w : World) (a : Addr) (v : Value) : (w.setCell a v).heap.size = w.heap.size := by simp [World.setCell]
theorem impl_Poset_labels.new (w : World) (o : Obj) {g : Nat} (h : g = w.heap.size) : (w.alloc o).heap[g]? = some o := by subst h; exact blk_new w o
theorem impl_Poset_labels.lit_R {α : Type} (d : Kd α) {W : World} (base e g : Nat) {xs : List α} {inner : List Value} {ok okp : Nat → Prop} (hrep : Reps (d.M W base okp) d.sz xs inner) (hok : ∀ k, okp k → ok k) (hg : g = W.heap.size) (hfresh : ok g) (hbase : base ≤ g) (hm : xs.length ≤ 9223372036854775807) :
    d.R e (W.alloc (.cells inner.toArray e)) base ok (.slice (some ⟨g, 0, none⟩) xs.length xs.length) xs := by
  subst hg
  refine ⟨fun k hk => ?_, inner, ?_, ?_⟩
  · have : W.heap.size = k := by simpa [Value.ownBlock] using hk
    subst this
    exact hfresh
  · have h2 := World.ownsRow_lit (base := base) (e := e) (size := d.sz) W inner.toArray xs.length hbase (by simpa [maxLen] using hm) (by simpa using hrep.1)
    simpa using h2
  · refine hrep.imp_ (fun p c hp => d.M_mono (fun k hk => ⟨hok k hk.1, fun he => ?_⟩) (Kd.M_below (d.M_bound hp) (below_alloc (Below.refl _ _) _)))
    have h3 : k = W.heap.size := by simpa [Value.ownBlock] using he
    have := hk.2.2.1
    omega
theorem impl_Poset_labels.made_R (W : World) (base g m : Nat) (hg : g = W.heap.size) (hbase : base ≤ g) (hm : m ≤ 35184372088832) :
    Kd.R (Kd.int .i64) 3 (W.alloc (.cells (madeCells #[.int .i64 0] m) 3)) base (fun k => some k = (Value.slice (some ⟨g, 0, none⟩) m m).ownBlock) (.slice (some ⟨g, 0, none⟩) m m) (List.replicate m 0) := by
  have hr : Reps ((Kd.int .i64).M W base (fun _ => True)) 1 (List.replicate m (0 : Int)) (madeCells (Value.int .i64 0).cells (m * 1)).toList := Kd.reps_made (z := .int .i64 0) rfl (by decide) (by constructor <;> first | rfl | trivial) m
  have h := impl_Poset_labels.lit_R (Kd.int .i64) base 3 g (ok := fun k => some k = (Value.slice (some ⟨g, 0, none⟩) m m).ownBlock) (okp := fun _ => False) hr (fun _ h => h.elim) hg rfl hbase (by rw [List.length_replicate]; omega)
  rw [List.length_replicate, Nat.mul_one] at h
  exact h
theorem impl_Poset_labels.nil_S (W : World) (base g : Nat) (ok : Nat → Prop) (hg : g = W.heap.size) (hok : ok g) (hbase : base ≤ g) :
    Kd.S (Kd.slice 3 (Kd.int .i64)) 22 (W.alloc (.cells #[] 22)) base ok (.slice (some ⟨g, 0, none⟩) 0 0) [] :=
  Kd.S_bare (impl_Poset_labels.lit_R (Kd.bare (Kd.slice 3 (Kd.int .i64))) base 22 g (xs := []) (inner := []) (okp := ok) (Reps.none _ _) (fun _ h => h) hg hok hbase (Nat.zero_le _))
set_option maxHeartbeats 800000 in
set_option maxRecDepth 100000 in
theorem impl_Poset_labels.size (A : Option Addr) (n c : Nat) (W : World) :
    Calls Try.prog 32 #[.agg #[.slice A n c]] W fun e w' => e = .returned (.int .i64 (n : Int)) ∧ ∃ m, w' = (W.alloc (.cells #[.slice A n c] 29)).drewN m := by
  have hu := Try.underlying29
  go_enter Try.func32, Try.ntmps32
  go_wp2
  go_ret
  exact ⟨rfl, 0, rfl⟩
structure impl_Poset_labels.RI (w W : World) (A0 : Option Addr) (n c0 : Nat) (a1 : Int) (b0 b1 b2 b3 b4 b5 b6 b7 : Bool) (a : Act) (g1 g2 Bo Bf : Nat) (x5 x6 x8 x9 x10 x11 : Value) : Prop where
  act : a = { tmps := #[.agg #[.slice A0 n c0], .int .i64 a1, .pointer (some ⟨w.heap.size, 0, none⟩), .pointer (some ⟨w.heap.size + 1, 0, none⟩), .slice none 0 0, x5, x6, undef, x8, x9, x10, x11, undef, undef, undef, undef], defers := [] }
  below : Below w.heap.size w W
  sz : w.heap.size + 2 ≤ W.heap.size
  bp : W.heap[w.heap.size]? = some (.cells #[.slice A0 n c0] 29 (0, 0))
  bm : W.heap[w.heap.size + 1]? = some (.cells #[.int .i64 a1] 3 (0, 0))
  s0 : b0 = true → x8 = .slice (some ⟨g1, 0, none⟩) 0 0 ∧ w.heap.size + 2 ≤ g1 ∧ g1 < W.heap.size ∧ Kd.S (Kd.slice 3 (Kd.int .i64)) 22 W w.heap.size (fun k => k = g1) (.slice (some ⟨g1, 0, none⟩) 0 0) []
  s1 : b1 = true → x9 = .agg #[.slice A0 n c0]
  s2 : b2 = true → x10 = .int .i64 (n : Int)
  s3 : b3 = true → x11 = .slice (some ⟨g2, 0, none⟩) n n ∧ w.heap.size + 2 ≤ g2 ∧ g2 < W.heap.size ∧ Kd.R (Kd.int .i64) 3 W w.heap.size (fun k => some k = (Value.slice (some ⟨g2, 0, none⟩) n n).ownBlock) (.slice (some ⟨g2, 0, none⟩) n n) (List.replicate n 0)
  s4 : b4 = true → x5 = .pointer (some ⟨Bo, 0, none⟩) ∧ w.heap.size + 2 ≤ Bo ∧ W.heap[Bo]? = some (.cells #[if b6 = true then .slice (some ⟨g1, 0, none⟩) 0 0 else .slice none 0 0] 26 (0, 0))
  s5 : b5 = true → x6 = .pointer (some ⟨Bf, 0, none⟩) ∧ w.heap.size + 2 ≤ Bf ∧ W.heap[Bf]? = some (.cells #[if b7 = true then .slice (some ⟨g2, 0, none⟩) n n else .slice none 0 0] 22 (0, 0))
  d1 : b0 = true → b4 = true → g1 ≠ Bo
  d2 : b0 = true → b5 = true → g1 ≠ Bf
  d3 : b0 = true → b3 = true → g1 ≠ g2
  d4 : b4 = true → b5 = true → Bo ≠ Bf
  d5 : b3 = true → b4 = true → g2 ≠ Bo
  d6 : b3 = true → b5 = true → g2 ≠ Bf
  c6 : b6 = true → b0 = true ∧ b4 = true
  c7 : b7 = true → b3 = true ∧ b5 = true
theorem impl_Poset_labels.RI.grow {w W W1 : World} {A0 : Option Addr} {n c0 : Nat} {a1 : Int} {b0 b1 b2 b3 b4 b5 b6 b7 : Bool} {a : Act} {g1 g2 Bo Bf : Nat} {x5 x6 x8 x9 x10 x11 : Value} (h : impl_Poset_labels.RI w W A0 n c0 a1 b0 b1 b2 b3 b4 b5 b6 b7 a g1 g2 Bo Bf x5 x6 x8 x9 x10 x11) (hb : Below W.heap.size W W1) :
    impl_Poset_labels.RI w W1 A0 n c0 a1 b0 b1 b2 b3 b4 b5 b6 b7 a g1 g2 Bo Bf x5 x6 x8 x9 x10 x11 :=
  have hs := hb.size
  { h with
    below := Go.Proofs.Ytldbabadbggleaa.X.below_to h.below hb
    sz := Nat.le_trans h.sz hs
    bp := blk_below h.bp hb
    bm := blk_below h.bm hb
    s0 := fun e => ⟨(h.s0 e).1, (h.s0 e).2.1, Nat.lt_of_lt_of_le (h.s0 e).2.2.1 hs, Kd.S_below (h.s0 e).2.2.2 hb⟩
    s3 := fun e => ⟨(h.s3 e).1, (h.s3 e).2.1, Nat.lt_of_lt_of_le (h.s3 e).2.2.1 hs, Kd.R_below (h.s3 e).2.2.2 hb⟩
    s4 := fun e => ⟨(h.s4 e).1, (h.s4 e).2.1, blk_below (h.s4 e).2.2 hb⟩
    s5 := fun e => ⟨(h.s5 e).1, (h.s5 e).2.1, blk_below (h.s5 e).2.2 hb⟩ }
def impl_Poset_labels.rdy (b0 b1 b2 b3 b4 b5 b6 b7 : Bool) (i : Nat) : Bool := (i == 0 && !b0) || (i == 1 && !b1) || (i == 2 && !b2 && b1) || (i == 3 && !b3 && b2) || (i == 4 && !b4) || (i == 5 && !b5) || (i == 6 && !b6 && b0 && b4) || (i == 7 && !b7 && b3 && b5)
theorem impl_Poset_labels.rdy_ok : ∀ b0 b1 b2 b3 b4 b5 b6 b7 : Bool, ((Region.ready .any (opsOf Try.f33 1) #[b0, b1, b2, b3, b4, b5, b6, b7]).all (impl_Poset_labels.rdy b0 b1 b2 b3 b4 b5 b6 b7) && (!(Region.ready .any (opsOf Try.f33 1) #[b0, b1, b2, b3, b4, b5, b6, b7]).isEmpty || (b0 && b1 && b2 && b3 && b4 && b5 && b6 && b7))) = true := by decide +kernel
open Go.Proofs.Ytldbabadbggleaa.X in
set_option maxHeartbeats 40000000 in
set_option maxRecDepth 100000 in
theorem impl_Poset_labels.calls (k : Nat) (A0_0 : Option Addr) (c0_0 : Nat) (l0_0 : List Int) (a1 : Int) (r : List (List Int)) (w : World) (hr0_0 : Kd.C (Kd.int .i64) w A0_0 l0_0.length l0_0) (hc0_0 : l0_0.length ≤ c0_0) (h : impl_Poset_labels.f k l0_0 a1 = some r) :
    Calls Try.prog 33 #[.agg #[.slice A0_0 l0_0.length c0_0], .int .i64 a1] w fun e w' => ∃ v0_ : Value, e = .returned v0_ ∧ Kd.S (Kd.slice 3 (Kd.int .i64)) 22 w' w.heap.size (fun _ => True) v0_ r ∧ Below w.heap.size w w' := by
  have HR := Aside0.mk hr0_0
  have HC := Aside0.mk hc0_0
  clear hr0_0 hc0_0
  unfold impl_Poset_labels.f at h
  split at h
  · rename_i hlen
    obtain ⟨t, ht, h1⟩ := Option.map_eq_some_iff.mp h
    have HT := Aside0.mk ht
    have HL := Aside0.mk hlen
    have HE := Aside0.mk h1
    clear ht hlen h1 h
    have hu := Try.underlying29
    have hmk := print_make (P := Try.prog) 22 3 .i64 8 Try.underlying22 rfl (by decide) l0_0.length (by have := HL.out; omega)
    go_enter Try.func33, Try.ntmps33
    go_wp2_with fail
    rename_i K1 hK1
    have tail : ∀ (W : World) (Bo Bf g1 g2 : Nat), Below w.heap.size w W → W.heap[w.heap.size]? = some (.cells #[.slice A0_0 l0_0.length c0_0] 29 (0, 0)) → W.heap[w.heap.size + 1]? = some (.cells #[.int .i64 a1] 3 (0, 0)) →
        W.heap[Bo]? = some (.cells #[.slice (some ⟨g1, 0, none⟩) 0 0] 26 (0, 0)) → W.heap[Bf]? = some (.cells #[.slice (some ⟨g2, 0, none⟩) l0_0.length l0_0.length] 22 (0, 0)) →
        Kd.S (Kd.slice 3 (Kd.int .i64)) 22 W w.heap.size (fun k => k = g1) (.slice (some ⟨g1, 0, none⟩) 0 0) [] →
        Kd.R (Kd.int .i64) 3 W w.heap.size (fun k => some k = (Value.slice (some ⟨g2, 0, none⟩) l0_0.length l0_0.length).ownBlock) (.slice (some ⟨g2, 0, none⟩) l0_0.length l0_0.length) (List.replicate l0_0.length 0) →
        w.heap.size + 2 ≤ g1 → g1 ≠ Bo → g1 ≠ Bf → g1 ≠ g2 → w.heap.size + 2 ≤ g2 → w.heap.size ≤ Bo → g1 < W.heap.size →
        K1 { tmps := #[.agg #[.slice A0_0 l0_0.length c0_0], .int .i64 a1, .pointer (some ⟨w.heap.size, 0, none⟩), .pointer (some ⟨w.heap.size + 1, 0, none⟩), .slice none 0 0, .pointer (some ⟨Bo, 0, none⟩), .pointer (some ⟨Bf, 0, none⟩), undef, .slice (some ⟨g1, 0, none⟩) 0 0, .agg #[.slice A0_0 l0_0.length c0_0], .int .i64 (l0_0.length : Int), .slice (some ⟨g2, 0, none⟩) l0_0.length l0_0.length, undef, undef, undef, undef], defers := [] } W := by
      intro W Bo Bf g1 g2 hb hp hm ho hf hS hR n1 n2 n3 n4 n5 n6 n7
      refine hK1 _ _ ?_
      clear hK1
      have HI := Aside0.mk (show impl_Poset_labels.Inv w (W.alloc (.cells #[.func (.func 55) #[] #[.pointer (some ⟨w.heap.size, 0, none⟩), .pointer (some ⟨Bo, 0, none⟩), .pointer (some ⟨Bf, 0, none⟩), .pointer (some ⟨w.heap.size + 1, 0, none⟩), .pointer (some ⟨W.heap.size, 0, none⟩)]] 61)) A0_0 l0_0.length c0_0 a1 w.heap.size Bo Bf (w.heap.size + 1) W.heap.size (.slice (some ⟨g2, 0, none⟩) l0_0.length l0_0.length) (List.replicate l0_0.length 0) [] (.slice (some ⟨g1, 0, none⟩) 0 0) from
        ⟨below_alloc hb _, blk_alloc hp _, blk_alloc ho _, blk_alloc hf _, blk_alloc hm _, blk_new _ _, Kd.S_mono (Kd.S_alloc hS _) (fun k hk => by subst hk; exact ⟨by omega, n2, n3, by omega, by omega, fun e => n4 (by simpa [Value.ownBlock] using e)⟩), Kd.R_alloc hR _, (fun e => absurd (Option.some.inj e : w.heap.size + 1 = g2) (by omega)), n6⟩)
      clear hb hp hm ho hf hS hR n1 n2 n3 n4 n5 n6 n7
      have hsf : ∀ (a_ : Addr) (f_ : Fn) (x_ y_ : Array Value) (w_ : World), (store a_ (.func f_ x_ y_) .plain).run Try.prog w_ = stored Try.prog w_ a_ (.func f_ x_ y_) .plain := fun a_ f_ x_ y_ w_ => run_store Try.prog w_ a_ (.func f_ x_ y_) .plain rfl
      go_wp2_with fail
      refine (impl_Poset_labels.lit k w A0_0 c0_0 l0_0 a1 _ _ _ _ _ _ HR.out HC.out l0_0.length 0 _ _ t.1 t.2 _ _ HI.out HT.out).mono ?_
      rintro e w4 ⟨rfl, vO2, hI⟩
      obtain ⟨Ao, co, eO⟩ := Kd.S_slice hI.so
      subst eO
      have zo := blk_cell hI.bo 0
      have HS := Aside0.mk (Kd.S_mono hI.so (ok' := fun _ => True) (fun _ _ => trivial))
      have HB := Aside0.mk hI.below
      clear hI HI
      go_wp2
      go_ret
      exact ⟨_, rfl, by rw [← HE.out]; exact HS.out, HB.out⟩
    refine reg_any (n := 8) (fun l a W => ∃ b0 b1 b2 b3 b4 b5 b6 b7 g1 g2 Bo Bf x5 x6 x8 x9 x10 x11, l = #[b0, b1, b2, b3, b4, b5, b6, b7] ∧ impl_Poset_labels.RI w W A0_0 l0_0.length c0_0 a1 b0 b1 b2 b3 b4 b5 b6 b7 a g1 g2 Bo Bf x5 x6 x8 x9 x10 x11) (by kernel_rfl) rfl ?_ ?_ ?_
    · refine ⟨false, false, false, false, false, false, false, false, 0, 0, 0, 0, undef, undef, undef, undef, undef, undef, rfl, ?_⟩
      have hb : Below w.heap.size w (((w.alloc (Obj.cells #[Value.slice A0_0 l0_0.length c0_0] 29)).alloc (Obj.cells #[Value.int IntKind.i64 a1] 3)).drew) := below_drew1 (below_alloc (below_alloc (Below.refl _ _) _) _)
      refine ⟨rfl, hb, by (show w.heap.size + 2 ≤ ((w.alloc _).alloc _).heap.size); rw [impl_Poset_labels.asz, impl_Poset_labels.asz]; exact Nat.le_refl _, ?_, ?_, nofun, nofun, nofun, nofun, nofun, nofun, nofun, nofun, nofun, nofun, nofun, nofun, nofun, nofun⟩
      · exact blk_drew (blk_alloc (blk_new _ _) _)
      · refine blk_drew ?_
        have := blk_new (w.alloc (Obj.cells #[Value.slice A0_0 l0_0.length c0_0] 29)) (Obj.cells #[Value.int IntKind.i64 a1] 3)
        rw [impl_Poset_labels.asz] at this
        exact this
    · rintro l a W i ⟨b0, b1, b2, b3, b4, b5, b6, b7, g1, g2, Bo, Bf, x5, x6, x8, x9, x10, x11, rfl, h⟩ hi
      have hq := List.all_eq_true.mp (Bool.and_eq_true_iff.mp (impl_Poset_labels.rdy_ok b0 b1 b2 b3 b4 b5 b6 b7)).1 i hi
      clear hi
      simp only [impl_Poset_labels.rdy, Bool.or_eq_true, Bool.and_eq_true, beq_iff_eq, Bool.not_eq_true'] at hq
      obtain rfl := h.act
      have hsz := h.sz
      have hlo : b4 = true → Bo < W.heap.size := fun e => blk_lt (h.s4 e).2.2
      have hlf : b5 = true → Bf < W.heap.size := fun e => blk_lt (h.s5 e).2.2
      rcases hq with ((((((⟨rfl, rfl⟩ | ⟨rfl, rfl⟩) | ⟨⟨rfl, rfl⟩, rfl⟩) | ⟨⟨rfl, rfl⟩, rfl⟩) | ⟨rfl, rfl⟩) | ⟨rfl, rfl⟩) | ⟨⟨⟨rfl, rfl⟩, rfl⟩, rfl⟩) | ⟨⟨⟨rfl, rfl⟩, rfl⟩, rfl⟩
      · refine wpOp_step rfl (fun K' hK => ?_)
        rw [if_pos (by rfl)]
        unfold Oper.wp
        go_simp
        refine hK _ _ ⟨true, b1, b2, b3, b4, b5, b6, b7, W.heap.size, g2, Bo, Bf, x5, x6, .slice (some ⟨W.heap.size, 0, none⟩) 0 0, x9, x10, x11, rfl, ?_⟩
        have e6 : b6 = false := by cases b6 with
          | false => rfl
          | true => exact absurd (h.c6 rfl).1 (by simp)
        subst e6
        have h' := h.grow (below_alloc (Below.refl _ _) (Obj.cells #[] 22))
        exact { h' with
          act := rfl
          s0 := fun _ => ⟨rfl, hsz, by rw [impl_Poset_labels.asz]; exact Nat.lt_succ_self _, impl_Poset_labels.nil_S _ _ _ _ rfl rfl (by omega)⟩
          d1 := fun _ e => by have := hlo e; omega
          d2 := fun _ e => by have := hlf e; omega
          d3 := fun _ e => by have := (h.s3 e).2.2.1; omega
          c6 := nofun }
      · refine wpOp_step rfl (fun K' hK => ?_)
        rw [if_pos (by rfl)]
        have hz := blk_cell h.bp 0
        unfold Oper.wp
        go_simp
        refine hK _ _ ⟨b0, true, b2, b3, b4, b5, b6, b7, g1, g2, Bo, Bf, x5, x6, x8, .agg #[.slice A0_0 l0_0.length c0_0], x10, x11, rfl, { h with act := rfl, s1 := fun _ => rfl }⟩
      · obtain rfl := h.s1 rfl
        refine wpOp_step rfl (fun K' hK => ?_)
        rw [if_pos (by rfl)]
        go_simp
        go_at_call 32
        refine (impl_Poset_labels.size _ _ _ _).mono ?_
        rintro e w2 ⟨rfl, m, rfl⟩
        dsimp only
        refine hK _ _ ⟨b0, true, true, b3, b4, b5, b6, b7, g1, g2, Bo, Bf, x5, x6, x8, .agg #[.slice A0_0 l0_0.length c0_0], .int .i64 (l0_0.length : Int), x11, rfl, ?_⟩
        exact { h.grow (pw_below_drewN (below_alloc (Below.refl _ _) _) m) with act := rfl, s1 := fun _ => rfl, s2 := fun _ => rfl }
      · obtain rfl := h.s2 rfl
        refine wpOp_step rfl (fun K' hK => ?_)
        rw [if_pos (by rfl)]
        unfold Oper.wp
        go_simp
        refine hK _ _ ⟨b0, b1, true, true, b4, b5, b6, b7, g1, W.heap.size, Bo, Bf, x5, x6, x8, x9, .int .i64 (l0_0.length : Int), .slice (some ⟨W.heap.size, 0, none⟩) l0_0.length l0_0.length, rfl, ?_⟩
        have e7 : b7 = false := by cases b7 with
          | false => rfl
          | true => exact absurd (h.c7 rfl).1 (by simp)
        subst e7
        have h' := h.grow (below_alloc (Below.refl _ _) (Obj.cells (madeCells #[.int .i64 0] l0_0.length) 3))
        exact { h' with
          act := rfl
          s2 := fun _ => rfl
          s3 := fun _ => ⟨rfl, hsz, by rw [impl_Poset_labels.asz]; exact Nat.lt_succ_self _, impl_Poset_labels.made_R _ _ _ _ rfl (by omega) HL.out⟩
          d3 := fun e _ => by have := (h.s0 e).2.2.1; omega
          d5 := fun _ e => by have := hlo e; omega
          d6 := fun _ e => by have := hlf e; omega
          c7 := nofun }
      · refine wpOp_step rfl (fun K' hK => ?_)
        rw [if_pos (by rfl)]
        unfold Oper.wp
        go_simp
        refine hK _ _ ⟨b0, b1, b2, b3, true, b5, b6, b7, g1, g2, W.heap.size, Bf, .pointer (some ⟨W.heap.size, 0, none⟩), x6, x8, x9, x10, x11, rfl, ?_⟩
        have e6 : b6 = false := by cases b6 with
          | false => rfl
          | true => exact absurd (h.c6 rfl).2 (by simp)
        subst e6
        have h' := h.grow (below_alloc (Below.refl _ _) (Obj.cells #[.slice none 0 0] 26))
        exact { h' with
          act := rfl
          s4 := fun _ => ⟨rfl, hsz, blk_new _ _⟩
          d1 := fun e _ => by have := (h.s0 e).2.2.1; omega
          d4 := fun _ e => by have := hlf e; omega
          d5 := fun e _ => by have := (h.s3 e).2.2.1; omega
          c6 := nofun }
      · refine wpOp_step rfl (fun K' hK => ?_)
        rw [if_pos (by rfl)]
        unfold Oper.wp
        go_simp
        refine hK _ _ ⟨b0, b1, b2, b3, b4, true, b6, b7, g1, g2, Bo, W.heap.size, x5, .pointer (some ⟨W.heap.size, 0, none⟩), x8, x9, x10, x11, rfl, ?_⟩
        have e7 : b7 = false := by cases b7 with
          | false => rfl
          | true => exact absurd (h.c7 rfl).2 (by simp)
        subst e7
        have h' := h.grow (below_alloc (Below.refl _ _) (Obj.cells #[.slice none 0 0] 22))
        exact { h' with
          act := rfl
          s5 := fun _ => ⟨rfl, hsz, blk_new _ _⟩
          d2 := fun e _ => by have := (h.s0 e).2.2.1; omega
          d4 := fun e _ => by have := hlo e; omega
          d6 := fun e _ => by have := (h.s3 e).2.2.1; omega
          c7 := nofun }
      · obtain ⟨rfl, n1, n2, hS⟩ := h.s0 rfl
        obtain ⟨rfl, n3, hB⟩ := h.s4 rfl
        have hz := blk_cell hB 0
        have hf := blk_frozen hB 0
        have dd := h.d1 rfl rfl
        refine wpOp_step rfl (fun K' hK => ?_)
        rw [if_pos (by rfl)]
        unfold Oper.wp
        go_simp
        refine hK _ _ ⟨true, b1, b2, b3, true, b5, true, b7, g1, g2, Bo, Bf, .pointer (some ⟨Bo, 0, none⟩), x6, .slice (some ⟨g1, 0, none⟩) 0 0, x9, x10, x11, rfl, ?_⟩
        exact { act := rfl
                below := below_set h.below (by omega)
                sz := by rw [impl_Poset_labels.ssz]; exact h.sz
                bp := blk_far h.bp (by dsimp only; omega) _
                bm := blk_far h.bm (by dsimp only; omega) _
                s0 := fun _ => ⟨rfl, n1, by rw [impl_Poset_labels.ssz]; exact n2, Kd.S_far hS (fun k_ hk_ => by subst hk_; exact dd) _⟩
                s1 := h.s1
                s2 := h.s2
                s3 := fun e => ⟨(h.s3 e).1, (h.s3 e).2.1, by rw [impl_Poset_labels.ssz]; exact (h.s3 e).2.2.1, Kd.R_far (h.s3 e).2.2.2 (fun k_ hk_ => by have e_ := Option.some.inj hk_; subst e_; exact h.d5 e rfl) _⟩
                s4 := fun _ => ⟨rfl, n3, blk_put hB 0 _ rfl⟩
                s5 := fun e => ⟨(h.s5 e).1, (h.s5 e).2.1, blk_far (h.s5 e).2.2 (fun q => h.d4 rfl e q.symm) _⟩
                d1 := h.d1, d2 := h.d2, d3 := h.d3, d4 := h.d4, d5 := h.d5, d6 := h.d6, c6 := fun _ => ⟨rfl, rfl⟩, c7 := h.c7 }
      · obtain ⟨rfl, n1, n2, hR⟩ := h.s3 rfl
        obtain ⟨rfl, n3, hB⟩ := h.s5 rfl
        have hz := blk_cell hB 0
        have hf := blk_frozen hB 0
        have dd := h.d6 rfl rfl
        refine wpOp_step rfl (fun K' hK => ?_)
        rw [if_pos (by rfl)]
        unfold Oper.wp
        go_simp
        refine hK _ _ ⟨b0, b1, b2, true, b4, true, b6, true, g1, g2, Bo, Bf, x5, .pointer (some ⟨Bf, 0, none⟩), x8, x9, x10, .slice (some ⟨g2, 0, none⟩) l0_0.length l0_0.length, rfl, ?_⟩
        exact { act := rfl
                below := below_set h.below (by omega)
                sz := by rw [impl_Poset_labels.ssz]; exact h.sz
                bp := blk_far h.bp (by dsimp only; omega) _
                bm := blk_far h.bm (by dsimp only; omega) _
                s0 := fun e => ⟨(h.s0 e).1, (h.s0 e).2.1, by rw [impl_Poset_labels.ssz]; exact (h.s0 e).2.2.1, Kd.S_far (h.s0 e).2.2.2 (fun k_ hk_ => by subst hk_; exact h.d2 e rfl) _⟩
                s1 := h.s1
                s2 := h.s2
                s3 := fun _ => ⟨rfl, n1, by rw [impl_Poset_labels.ssz]; exact n2, Kd.R_far hR (fun k_ hk_ => by have e_ := Option.some.inj hk_; subst e_; exact dd) _⟩
                s4 := fun e => ⟨(h.s4 e).1, (h.s4 e).2.1, blk_far (h.s4 e).2.2 (h.d4 e rfl) _⟩
                s5 := fun _ => ⟨rfl, n3, blk_put hB 0 _ rfl⟩
                d1 := h.d1, d2 := h.d2, d3 := h.d3, d4 := h.d4, d5 := h.d5, d6 := h.d6, c6 := h.c6, c7 := fun _ => ⟨rfl, rfl⟩ }
    · rintro l a W ⟨b0, b1, b2, b3, b4, b5, b6, b7, g1, g2, Bo, Bf, x5, x6, x8, x9, x10, x11, rfl, h⟩ hr
      have hq := (Bool.and_eq_true_iff.mp (impl_Poset_labels.rdy_ok b0 b1 b2 b3 b4 b5 b6 b7)).2
      have hr' : Region.ready .any (opsOf Try.f33 1) #[b0, b1, b2, b3, b4, b5, b6, b7] = [] := hr
      rw [hr'] at hq
      simp only [List.isEmpty_nil, Bool.not_true, Bool.false_or, Bool.and_eq_true] at hq
      obtain ⟨⟨⟨⟨⟨⟨⟨rfl, rfl⟩, rfl⟩, rfl⟩, rfl⟩, rfl⟩, rfl⟩, rfl⟩ := hq
      obtain rfl := h.act
      obtain ⟨rfl, n1, n2, hS⟩ := h.s0 rfl
      obtain rfl := h.s1 rfl
      obtain rfl := h.s2 rfl
      obtain ⟨rfl, n3, n4, hR⟩ := h.s3 rfl
      obtain ⟨rfl, n5, hO⟩ := h.s4 rfl
      obtain ⟨rfl, n6, hF⟩ := h.s5 rfl
      exact tail W Bo Bf g1 g2 h.below h.bp h.bm hO hF hS hR n1 (h.d1 rfl rfl) (h.d2 rfl rfl) (h.d3 rfl rfl) n3 (by omega) n2
  · cases h
def impl_AllArrays.f (k : Nat) (l0_0 : List Int) (a1 : Int) : Option ((List (List Int)) × Bool) := (impl_IsPoset.f k l0_0).bind fun t176 => (if t176 = true then ((impl_within.f a1 0 4).bind fun t177 => (if t177 = true then ((impl_Poset_n.f l0_0).bind fun t178 => (if t178 > 6 then (some (([] : List (List Int)), false)) else ((impl_Poset_labels.f k l0_0 a1).bind fun t179 => (some (t179, true))))) else (some (([] : List (List Int)), false)))) else (some (([] : List (List Int)), false)))
theorem impl_AllArrays.mono : ∀ a0 a1 k, LeO (impl_AllArrays.f k a0 a1) (impl_AllArrays.f (k + 1) a0 a1) := by
  intro a0 a1 k
  unfold impl_AllArrays.f
  repeat' first
      | (with_reducible exact impl_IsPoset.mono _ _)
      | (with_reducible exact impl_Poset_labels.mono _ _ _)
      | (with_reducible exact LeO.refl _)
      | (with_reducible exact LeO.none _)
      | (with_reducible refine LeO.ite ?_ ?_)
      | (with_reducible refine LeO.bind ?_ (fun _ => ?_))
      | exact impl_IsPoset.mono _ _
      | exact impl_Poset_labels.mono _ _ _
      | exact LeO.none _
      | refine LeO.ite ?_ ?_
      | refine LeO.bind ?_ (fun _ => ?_)
set_option maxHeartbeats 8000000 in
set_option maxRecDepth 100000 in
theorem impl_AllArrays.calls (k : Nat) (A0_0 : Option Addr) (c0_0 : Nat) (l0_0 : List Int) (a1 : Int) (r1 : List (List Int)) (r2 : Bool) (w : World) (hr0_0 : Kd.C (Kd.int .i64) w A0_0 l0_0.length l0_0) (hc0_0 : l0_0.length ≤ c0_0) (h : impl_AllArrays.f k l0_0 a1 = some (r1, r2)) :
    Calls Try.prog 10 #[.agg #[.slice A0_0 l0_0.length c0_0], .int .i64 a1] w fun e w' => ∃ v0_ : Value, e = .returned (.tuple #[v0_, .bool r2]) ∧ Kd.S (Kd.slice 3 (Kd.int .i64)) 22 w' w.heap.size (fun _ => True) v0_ r1 ∧ Below w.heap.size w w' := by
  have hu29 := Try.underlying29
  have HR0_0 := Aside0.mk hr0_0
  have HC0_0 := Aside0.mk hc0_0
  clear hr0_0 hc0_0
  have HB := Aside0.mk (Below.refl w.heap.size w)
  have H : ((impl_IsPoset.f k l0_0).bind fun t176 => (if t176 = true then ((impl_within.f a1 0 4).bind fun t177 => (if t177 = true then ((impl_Poset_n.f l0_0).bind fun t178 => (if t178 > 6 then (some (([] : List (List Int)), false)) else ((impl_Poset_labels.f k l0_0 a1).bind fun t179 => (some (t179, true))))) else (some (([] : List (List Int)), false)))) else (some (([] : List (List Int)), false)))) = some (r1, r2) := h
  clear h
  replace H := Option.bind_eq_some_iff.mp H
  obtain ⟨t176, A30, H⟩ := H
  replace H : (if t176 = true then ((impl_within.f a1 0 4).bind fun t177 => (if t177 = true then ((impl_Poset_n.f l0_0).bind fun t178 => (if t178 > 6 then (some (([] : List (List Int)), false)) else ((impl_Poset_labels.f k l0_0 a1).bind fun t179 => (some (t179, true))))) else (some (([] : List (List Int)), false)))) else (some (([] : List (List Int)), false))) = some (r1, r2) := H
  have A3 := Aside0.mk A30
  clear A30
  by_cases c4 : t176 = true
  · subst c4
    have H1 : ((impl_within.f a1 0 4).bind fun t177 => (if t177 = true then ((impl_Poset_n.f l0_0).bind fun t178 => (if t178 > 6 then (some (([] : List (List Int)), false)) else ((impl_Poset_labels.f k l0_0 a1).bind fun t179 => (some (t179, true))))) else (some (([] : List (List Int)), false)))) = some (r1, r2) := by rw [if_pos rfl] at H; exact H
    clear H
    have H := H1
    clear H1
    replace H := Option.bind_eq_some_iff.mp H
    obtain ⟨t177, A50, H⟩ := H
    replace H : (if t177 = true then ((impl_Poset_n.f l0_0).bind fun t178 => (if t178 > 6 then (some (([] : List (List Int)), false)) else ((impl_Poset_labels.f k l0_0 a1).bind fun t179 => (some (t179, true))))) else (some (([] : List (List Int)), false))) = some (r1, r2) := H
    have A5 := Aside0.mk A50
    clear A50
    by_cases c6 : t177 = true
    · subst c6
      have H1 : ((impl_Poset_n.f l0_0).bind fun t178 => (if t178 > 6 then (some (([] : List (List Int)), false)) else ((impl_Poset_labels.f k l0_0 a1).bind fun t179 => (some (t179, true))))) = some (r1, r2) := by rw [if_pos rfl] at H; exact H
      clear H
      have H := H1
      clear H1
      replace H := Option.bind_eq_some_iff.mp H
      obtain ⟨t178, A70, H⟩ := H
      replace H : (if t178 > 6 then (some (([] : List (List Int)), false)) else ((impl_Poset_labels.f k l0_0 a1).bind fun t179 => (some (t179, true)))) = some (r1, r2) := H
      have A7 := Aside0.mk A70
      clear A70
      by_cases c8 : t178 > 6
      · rw [if_pos c8] at H
        have c8b0 : decide (6 < t178) = true := decide_eq_true c8
        clear c8
        simp only [Option.some.injEq, Prod.mk.injEq] at H
        obtain ⟨rfl, rfl⟩ := H
        go_enter Try.func10, Try.ntmps10
        go_wp2_with (first | ((with_reducible refine gate_dst (N := 2) rfl ?_); refine box_event ?hg (N := 2) ?hd (cs := #[.slice A0_0 l0_0.length c0_0]) (t := 29) ?hr ?_; (case hd => rfl); (case hg => rfl); (case hr => first | (go_simp; done) | (go_simp; rfl)); intro gb175 hg w9 hbox hb; have n0_ := Aside0.mk (below_step (by repeat (first | (with_reducible first | exact HB.out | apply below_alloc | apply pw_below_drewN | apply below_drew1) | exact HB.out)) hb); have n1_ := Aside0.mk (hbox); have n2_ := Aside0.mk ((by rw [hg]; exact (below_size (by repeat (first | (with_reducible first | exact HB.out | apply below_alloc | apply pw_below_drewN | apply below_drew1) | exact HB.out))) : w.heap.size ≤ gb175)); have n3_ := Aside0.mk ((by rw [hg]; exact (below_size (by repeat (first | (with_reducible first | exact HB.out | apply below_alloc | apply pw_below_drewN | apply below_drew1) | exact HB.out))) : w.heap.size ≤ gb175)); clear HB; have HB := n0_; have BK175 := n1_; have GW175 := n2_; have GE175 := n3_; clear n0_ n1_ n2_ n3_; clear hb hbox hg; have hcz10_0 : w9.cell? ⟨gb175, 0, none⟩ = some (.slice A0_0 l0_0.length c0_0) := (blk_cell BK175.out 0).trans rfl; have hfz10_0 := blk_frozen BK175.out 0) | ((with_reducible refine gate_callee (f := 30) rfl ?_); refine goesL_ (some 7) rfl rfl Try.func30 (by kernel_rfl) rfl #[.agg #[.slice A0_0 l0_0.length c0_0]] rfl (by (try simp only [List.map_toArray, List.map_cons, List.map_nil]); first | done | rfl | (simp only [List.length_drop, List.length_take]; rfl)) ?_; (with_reducible refine (impl_IsPoset.calls k _ _ l0_0 true _ ?side1 ?side2 A3.out).mono ?_); (case side1 => repeat (first | exact (Kd.C_below HR0_0.out HB.out) | (with_reducible refine Kd.C_alloc ?_ _) | (with_reducible refine Kd.C_drewN ?_ _) | (with_reducible refine Kd.C_drew ?_))); (case side2 => exact HC0_0.out); rintro e w11 ⟨rfl, hb⟩; refine ⟨_, rfl, ?_⟩; have n0_ := Aside0.mk (blk_below (g := gb175) (o := .cells #[.slice A0_0 l0_0.length c0_0] 29 (0, 0)) (by (with_reducible repeat (first | refine blk_drewN ?_ _ | refine blk_drew ?_ | refine blk_alloc ?_ _)); exact BK175.out) hb); have n1_ := Aside0.mk (below_step (by repeat (first | (with_reducible first | exact HB.out | apply below_alloc | apply pw_below_drewN | apply below_drew1 | refine below_set ?_ GE175.out) | exact HB.out)) hb); clear BK175; clear HB; have BK175 := n0_; have HB := n1_; clear n0_ n1_; (try clear hb); (try clear hb2); (try clear hk); (try clear hi)) | (go_at_call 31; (with_reducible refine (impl_within.calls a1 0 4 true _ A5.out).mono ?_); rintro e w' ⟨rfl, ⟨nd, rfl⟩⟩; have hcz12_0 : w11.cell? ⟨gb175, 0, none⟩ = some (.slice A0_0 l0_0.length c0_0) := (blk_cell BK175.out 0).trans rfl; have hfz12_0 := blk_frozen BK175.out 0) | (go_at_call 32; (with_reducible refine (impl_Poset_n.calls _ _ l0_0 t178 _ ?side1 ?side2 A7.out).mono ?_); (case side1 => repeat (first | exact (Kd.C_below HR0_0.out (by repeat (first | (with_reducible first | exact HB.out | apply below_alloc | apply pw_below_drewN | apply below_drew1 | refine below_set ?_ GE175.out) | exact HB.out))) | (with_reducible refine Kd.C_alloc ?_ _) | (with_reducible refine Kd.C_drewN ?_ _) | (with_reducible refine Kd.C_drew ?_))); (case side2 => exact HC0_0.out); rintro e w13 ⟨rfl, hb⟩; have n0_ := Aside0.mk (blk_below (g := gb175) (o := .cells #[.slice A0_0 l0_0.length c0_0] 29 (0, 0)) (by (with_reducible repeat (first | refine blk_drewN ?_ _ | refine blk_drew ?_ | refine blk_alloc ?_ _)); exact BK175.out) hb); have n1_ := Aside0.mk (below_step (by repeat (first | (with_reducible first | exact HB.out | apply below_alloc | apply pw_below_drewN | apply below_drew1 | refine below_set ?_ GE175.out) | exact HB.out)) hb); clear BK175; clear HB; have BK175 := n0_; have HB := n1_; clear n0_ n1_; (try clear hb); (try clear hb2); (try clear hk); (try clear hi)))
        go_ret2
        exact ⟨_, by first | rfl | (simp [errW_none, errW_some] <;> rfl) | (simp [*, errW_none, errW_some] <;> rfl), by first | exact Kd.S_nil _ _ _ _ _ | exact Kd.N_nil _ _ _ _ _ | exact Kd.V_nil _ _ _ _ _ | exact Kd.Q_nil _ _ _ _ _ | exact Kd.R_nil _ _ _ _ _, by repeat (first | (with_reducible first | exact HB.out | apply below_alloc | apply pw_below_drewN | apply below_drew1 | refine below_set ?_ GE175.out) | exact HB.out)⟩
      · rw [if_neg c8] at H
        have c8b0 : decide (6 < t178) = false := decide_eq_false c8
        clear c8
        replace H := Option.bind_eq_some_iff.mp H
        obtain ⟨t179, A140, H⟩ := H
        replace H : (some (t179, true)) = some (r1, r2) := H
        have A14 := Aside0.mk A140
        clear A140
        simp only [Option.some.injEq, Prod.mk.injEq] at H
        obtain ⟨rfl, rfl⟩ := H
        go_enter Try.func10, Try.ntmps10
        go_wp2_with (first | ((with_reducible refine gate_dst (N := 2) rfl ?_); refine box_event ?hg (N := 2) ?hd (cs := #[.slice A0_0 l0_0.length c0_0]) (t := 29) ?hr ?_; (case hd => rfl); (case hg => rfl); (case hr => first | (go_simp; done) | (go_simp; rfl)); intro gb175 hg w15 hbox hb; have n0_ := Aside0.mk (below_step (by repeat (first | (with_reducible first | exact HB.out | apply below_alloc | apply pw_below_drewN | apply below_drew1) | exact HB.out)) hb); have n1_ := Aside0.mk (hbox); have n2_ := Aside0.mk ((by rw [hg]; exact (below_size (by repeat (first | (with_reducible first | exact HB.out | apply below_alloc | apply pw_below_drewN | apply below_drew1) | exact HB.out))) : w.heap.size ≤ gb175)); have n3_ := Aside0.mk ((by rw [hg]; exact (below_size (by repeat (first | (with_reducible first | exact HB.out | apply below_alloc | apply pw_below_drewN | apply below_drew1) | exact HB.out))) : w.heap.size ≤ gb175)); clear HB; have HB := n0_; have BK175 := n1_; have GW175 := n2_; have GE175 := n3_; clear n0_ n1_ n2_ n3_; clear hb hbox hg; have hcz16_0 : w15.cell? ⟨gb175, 0, none⟩ = some (.slice A0_0 l0_0.length c0_0) := (blk_cell BK175.out 0).trans rfl; have hfz16_0 := blk_frozen BK175.out 0) | ((with_reducible refine gate_callee (f := 30) rfl ?_); refine goesL_ (some 7) rfl rfl Try.func30 (by kernel_rfl) rfl #[.agg #[.slice A0_0 l0_0.length c0_0]] rfl (by (try simp only [List.map_toArray, List.map_cons, List.map_nil]); first | done | rfl | (simp only [List.length_drop, List.length_take]; rfl)) ?_; (with_reducible refine (impl_IsPoset.calls k _ _ l0_0 true _ ?side1 ?side2 A3.out).mono ?_); (case side1 => repeat (first | exact (Kd.C_below HR0_0.out HB.out) | (with_reducible refine Kd.C_alloc ?_ _) | (with_reducible refine Kd.C_drewN ?_ _) | (with_reducible refine Kd.C_drew ?_))); (case side2 => exact HC0_0.out); rintro e w17 ⟨rfl, hb⟩; refine ⟨_, rfl, ?_⟩; have n0_ := Aside0.mk (blk_below (g := gb175) (o := .cells #[.slice A0_0 l0_0.length c0_0] 29 (0, 0)) (by (with_reducible repeat (first | refine blk_drewN ?_ _ | refine blk_drew ?_ | refine blk_alloc ?_ _)); exact BK175.out) hb); have n1_ := Aside0.mk (below_step (by repeat (first | (with_reducible first | exact HB.out | apply below_alloc | apply pw_below_drewN | apply below_drew1 | refine below_set ?_ GE175.out) | exact HB.out)) hb); clear BK175; clear HB; have BK175 := n0_; have HB := n1_; clear n0_ n1_; (try clear hb); (try clear hb2); (try clear hk); (try clear hi)) | (go_at_call 31; (with_reducible refine (impl_within.calls a1 0 4 true _ A5.out).mono ?_); rintro e w' ⟨rfl, ⟨nd, rfl⟩⟩; have hcz18_0 : w17.cell? ⟨gb175, 0, none⟩ = some (.slice A0_0 l0_0.length c0_0) := (blk_cell BK175.out 0).trans rfl; have hfz18_0 := blk_frozen BK175.out 0) | (go_at_call 32; (with_reducible refine (impl_Poset_n.calls _ _ l0_0 t178 _ ?side1 ?side2 A7.out).mono ?_); (case side1 => repeat (first | exact (Kd.C_below HR0_0.out (by repeat (first | (with_reducible first | exact HB.out | apply below_alloc | apply pw_below_drewN | apply below_drew1 | refine below_set ?_ GE175.out) | exact HB.out))) | (with_reducible refine Kd.C_alloc ?_ _) | (with_reducible refine Kd.C_drewN ?_ _) | (with_reducible refine Kd.C_drew ?_))); (case side2 => exact HC0_0.out); rintro e w19 ⟨rfl, hb⟩; have n0_ := Aside0.mk (blk_below (g := gb175) (o := .cells #[.slice A0_0 l0_0.length c0_0] 29 (0, 0)) (by (with_reducible repeat (first | refine blk_drewN ?_ _ | refine blk_drew ?_ | refine blk_alloc ?_ _)); exact BK175.out) hb); have n1_ := Aside0.mk (below_step (by repeat (first | (with_reducible first | exact HB.out | apply below_alloc | apply pw_below_drewN | apply below_drew1 | refine below_set ?_ GE175.out) | exact HB.out)) hb); clear BK175; clear HB; have BK175 := n0_; have HB := n1_; clear n0_ n1_; (try clear hb); (try clear hb2); (try clear hk); (try clear hi); have hcz20_0 : w19.cell? ⟨gb175, 0, none⟩ = some (.slice A0_0 l0_0.length c0_0) := (blk_cell BK175.out 0).trans rfl; have hfz20_0 := blk_frozen BK175.out 0) | ((with_reducible refine gate_callee (f := 33) rfl ?_); refine goesL_ (some 21) rfl rfl Try.func33 (by kernel_rfl) rfl #[.agg #[.slice A0_0 l0_0.length c0_0], .int .i64 a1] rfl (by (try simp only [List.map_toArray, List.map_cons, List.map_nil]); first | done | rfl | (simp only [List.length_drop, List.length_take]; rfl)) ?_; (with_reducible refine (impl_Poset_labels.calls k _ _ l0_0 a1 t179 _ ?side1 ?side2 A14.out).mono ?_); (case side1 => repeat (first | exact (Kd.C_below HR0_0.out HB.out) | (with_reducible refine Kd.C_alloc ?_ _) | (with_reducible refine Kd.C_drewN ?_ _) | (with_reducible refine Kd.C_drew ?_))); (case side2 => exact HC0_0.out); rintro e w21 ⟨v180, rfl, ho0, hb⟩; refine ⟨_, rfl, ?_⟩; have n0_ := Aside0.mk (Kd.S_lower ho0 (below_size (by repeat (first | (with_reducible first | exact HB.out | apply below_alloc | apply pw_below_drewN | apply below_drew1 | refine below_set ?_ GE175.out) | exact HB.out)))); have n1_ := Aside0.mk (blk_below (g := gb175) (o := .cells #[.slice A0_0 l0_0.length c0_0] 29 (0, 0)) (by (with_reducible repeat (first | refine blk_drewN ?_ _ | refine blk_drew ?_ | refine blk_alloc ?_ _)); exact BK175.out) hb); have n2_ := Aside0.mk (below_step (by repeat (first | (with_reducible first | exact HB.out | apply below_alloc | apply pw_below_drewN | apply below_drew1 | refine below_set ?_ GE175.out) | exact HB.out)) hb); clear BK175; clear HB; have HO181 := n0_; have BK175 := n1_; have HB := n2_; clear n0_ n1_ n2_; (try clear hb); (try clear hb2); (try clear hk); (try clear hi); (try clear ho0)))
        go_ret2
        exact ⟨_, by first | rfl | (simp [errW_none, errW_some] <;> rfl) | (simp [*, errW_none, errW_some] <;> rfl), by (with_reducible repeat (first | apply Kd.S_alloc | apply Kd.S_drewN | apply Kd.S_drew)); exact HO181.out, by repeat (first | (with_reducible first | exact HB.out | apply below_alloc | apply pw_below_drewN | apply below_drew1 | refine below_set ?_ GE175.out) | exact HB.out)⟩
    · replace c6 := Bool.eq_false_iff.mpr c6
      subst c6
      have H1 : (some (([] : List (List Int)), false)) = some (r1, r2) := by rw [if_neg (show ¬ (false = true) by decide)] at H; exact H
      clear H
      have H := H1
      clear H1
      simp only [Option.some.injEq, Prod.mk.injEq] at H
      obtain ⟨rfl, rfl⟩ := H
      go_enter Try.func10, Try.ntmps10
      go_wp2_with (first | ((with_reducible refine gate_dst (N := 2) rfl ?_); refine box_event ?hg (N := 2) ?hd (cs := #[.slice A0_0 l0_0.length c0_0]) (t := 29) ?hr ?_; (case hd => rfl); (case hg => rfl); (case hr => first | (go_simp; done) | (go_simp; rfl)); intro gb175 hg w22 hbox hb; have n0_ := Aside0.mk (below_step (by repeat (first | (with_reducible first | exact HB.out | apply below_alloc | apply pw_below_drewN | apply below_drew1) | exact HB.out)) hb); have n1_ := Aside0.mk (hbox); have n2_ := Aside0.mk ((by rw [hg]; exact (below_size (by repeat (first | (with_reducible first | exact HB.out | apply below_alloc | apply pw_below_drewN | apply below_drew1) | exact HB.out))) : w.heap.size ≤ gb175)); have n3_ := Aside0.mk ((by rw [hg]; exact (below_size (by repeat (first | (with_reducible first | exact HB.out | apply below_alloc | apply pw_below_drewN | apply below_drew1) | exact HB.out))) : w.heap.size ≤ gb175)); clear HB; have HB := n0_; have BK175 := n1_; have GW175 := n2_; have GE175 := n3_; clear n0_ n1_ n2_ n3_; clear hb hbox hg; have hcz23_0 : w22.cell? ⟨gb175, 0, none⟩ = some (.slice A0_0 l0_0.length c0_0) := (blk_cell BK175.out 0).trans rfl; have hfz23_0 := blk_frozen BK175.out 0) | ((with_reducible refine gate_callee (f := 30) rfl ?_); refine goesL_ (some 7) rfl rfl Try.func30 (by kernel_rfl) rfl #[.agg #[.slice A0_0 l0_0.length c0_0]] rfl (by (try simp only [List.map_toArray, List.map_cons, List.map_nil]); first | done | rfl | (simp only [List.length_drop, List.length_take]; rfl)) ?_; (with_reducible refine (impl_IsPoset.calls k _ _ l0_0 true _ ?side1 ?side2 A3.out).mono ?_); (case side1 => repeat (first | exact (Kd.C_below HR0_0.out HB.out) | (with_reducible refine Kd.C_alloc ?_ _) | (with_reducible refine Kd.C_drewN ?_ _) | (with_reducible refine Kd.C_drew ?_))); (case side2 => exact HC0_0.out); rintro e w24 ⟨rfl, hb⟩; refine ⟨_, rfl, ?_⟩; have n0_ := Aside0.mk (blk_below (g := gb175) (o := .cells #[.slice A0_0 l0_0.length c0_0] 29 (0, 0)) (by (with_reducible repeat (first | refine blk_drewN ?_ _ | refine blk_drew ?_ | refine blk_alloc ?_ _)); exact BK175.out) hb); have n1_ := Aside0.mk (below_step (by repeat (first | (with_reducible first | exact HB.out | apply below_alloc | apply pw_below_drewN | apply below_drew1 | refine below_set ?_ GE175.out) | exact HB.out)) hb); clear BK175; clear HB; have BK175 := n0_; have HB := n1_; clear n0_ n1_; (try clear hb); (try clear hb2); (try clear hk); (try clear hi)) | (go_at_call 31; (with_reducible refine (impl_within.calls a1 0 4 false _ A5.out).mono ?_); rintro e w' ⟨rfl, ⟨nd, rfl⟩⟩))
      go_ret2
      exact ⟨_, by first | rfl | (simp [errW_none, errW_some] <;> rfl) | (simp [*, errW_none, errW_some] <;> rfl), by first | exact Kd.S_nil _ _ _ _ _ | exact Kd.N_nil _ _ _ _ _ | exact Kd.V_nil _ _ _ _ _ | exact Kd.Q_nil _ _ _ _ _ | exact Kd.R_nil _ _ _ _ _, by repeat (first | (with_reducible first | exact HB.out | apply below_alloc | apply pw_below_drewN | apply below_drew1 | refine below_set ?_ GE175.out) | exact HB.out)⟩
  · replace c4 := Bool.eq_false_iff.mpr c4
    subst c4
    have H1 : (some (([] : List (List Int)), false)) = some (r1, r2) := by rw [if_neg (show ¬ (false = true) by decide)] at H; exact H
    clear H
    have H := H1
    clear H1
    simp only [Option.some.injEq, Prod.mk.injEq] at H
    obtain ⟨rfl, rfl⟩ := H
    go_enter Try.func10, Try.ntmps10
    go_wp2_with (first | ((with_reducible refine gate_dst (N := 2) rfl ?_); refine box_event ?hg (N := 2) ?hd (cs := #[.slice A0_0 l0_0.length c0_0]) (t := 29) ?hr ?_; (case hd => rfl); (case hg => rfl); (case hr => first | (go_simp; done) | (go_simp; rfl)); intro gb175 hg w25 hbox hb; have n0_ := Aside0.mk (below_step (by repeat (first | (with_reducible first | exact HB.out | apply below_alloc | apply pw_below_drewN | apply below_drew1) | exact HB.out)) hb); have n1_ := Aside0.mk (hbox); have n2_ := Aside0.mk ((by rw [hg]; exact (below_size (by repeat (first | (with_reducible first | exact HB.out | apply below_alloc | apply pw_below_drewN | apply below_drew1) | exact HB.out))) : w.heap.size ≤ gb175)); have n3_ := Aside0.mk ((by rw [hg]; exact (below_size (by repeat (first | (with_reducible first | exact HB.out | apply below_alloc | apply pw_below_drewN | apply below_drew1) | exact HB.out))) : w.heap.size ≤ gb175)); clear HB; have HB := n0_; have BK175 := n1_; have GW175 := n2_; have GE175 := n3_; clear n0_ n1_ n2_ n3_; clear hb hbox hg; have hcz26_0 : w25.cell? ⟨gb175, 0, none⟩ = some (.slice A0_0 l0_0.length c0_0) := (blk_cell BK175.out 0).trans rfl; have hfz26_0 := blk_frozen BK175.out 0) | ((with_reducible refine gate_callee (f := 30) rfl ?_); refine goesL_ (some 7) rfl rfl Try.func30 (by kernel_rfl) rfl #[.agg #[.slice A0_0 l0_0.length c0_0]] rfl (by (try simp only [List.map_toArray, List.map_cons, List.map_nil]); first | done | rfl | (simp only [List.length_drop, List.length_take]; rfl)) ?_; (with_reducible refine (impl_IsPoset.calls k _ _ l0_0 false _ ?side1 ?side2 A3.out).mono ?_); (case side1 => repeat (first | exact (Kd.C_below HR0_0.out HB.out) | (with_reducible refine Kd.C_alloc ?_ _) | (with_reducible refine Kd.C_drewN ?_ _) | (with_reducible refine Kd.C_drew ?_))); (case side2 => exact HC0_0.out); rintro e w27 ⟨rfl, hb⟩; refine ⟨_, rfl, ?_⟩; have n0_ := Aside0.mk (blk_below (g := gb175) (o := .cells #[.slice A0_0 l0_0.length c0_0] 29 (0, 0)) (by (with_reducible repeat (first | refine blk_drewN ?_ _ | refine blk_drew ?_ | refine blk_alloc ?_ _)); exact BK175.out) hb); have n1_ := Aside0.mk (below_step (by repeat (first | (with_reducible first | exact HB.out | apply below_alloc | apply pw_below_drewN | apply below_drew1 | refine below_set ?_ GE175.out) | exact HB.out)) hb); clear BK175; clear HB; have BK175 := n0_; have HB := n1_; clear n0_ n1_; (try clear hb); (try clear hb2); (try clear hk); (try clear hi)))
    go_ret2
    exact ⟨_, by first | rfl | (simp [errW_none, errW_some] <;> rfl) | (simp [*, errW_none, errW_some] <;> rfl), by first | exact Kd.S_nil _ _ _ _ _ | exact Kd.N_nil _ _ _ _ _ | exact Kd.V_nil _ _ _ _ _ | exact Kd.Q_nil _ _ _ _ _ | exact Kd.R_nil _ _ _ _ _, by repeat (first | (with_reducible first | exact HB.out | apply below_alloc | apply pw_below_drewN | apply below_drew1 | refine below_set ?_ GE175.out) | exact HB.out)⟩
def laws_eqIntS.l0 : Nat → List Int → List Int → Int → Option (Bool)
  | 0, _, _, _ => none
  | k + 1, x0, x1, x5 => if x5 < (x0.length : Int) then (if 0 ≤ x5 then (if x5 < (x1.length : Int) then (if (rd x0 x5) = (rd x1 x5) then (laws_eqIntS.l0 k x0 x1 (wrap64 (x5 + 1))) else (some false)) else (none)) else (none)) else (some true)
def laws_eqIntS.f (k : Nat) (l0 : List Int) (l1 : List Int) : Option (Bool) := if (l0.length : Int) = (l1.length : Int) then (laws_eqIntS.l0 k l0 l1 0) else (some false)
theorem laws_eqIntS.mono_l : ∀ k, (∀ y0 y1 y2, LeO (laws_eqIntS.l0 k y0 y1 y2) (laws_eqIntS.l0 (k + 1) y0 y1 y2))
  | 0 => fun _ _ _ r h => by simp [laws_eqIntS.l0] at h
  | k + 1 => by
    have ih0 := laws_eqIntS.mono_l k
    · intro y0 y1 y2
      unfold laws_eqIntS.l0
      repeat' first
      | (with_reducible exact ih0 _ _ _)
      | (with_reducible exact LeO.refl _)
      | (with_reducible exact LeO.none _)
      | (with_reducible refine LeO.ite ?_ ?_)
      | (with_reducible refine LeO.bind ?_ (fun _ => ?_))
      | exact ih0 _ _ _
      | exact LeO.none _
      | refine LeO.ite ?_ ?_
      | refine LeO.bind ?_ (fun _ => ?_)
theorem laws_eqIntS.mono : ∀ a0 a1 k, LeO (laws_eqIntS.f k a0 a1) (laws_eqIntS.f (k + 1) a0 a1) := by
  intro a0 a1 k
  have ih0 := laws_eqIntS.mono_l k
  unfold laws_eqIntS.f
  repeat' first
      | (with_reducible exact ih0 _ _ _)
      | (with_reducible exact LeO.refl _)
      | (with_reducible exact LeO.none _)
      | (with_reducible refine LeO.ite ?_ ?_)
      | (with_reducible refine LeO.bind ?_ (fun _ => ?_))
      | exact ih0 _ _ _
      | exact LeO.none _
      | refine LeO.ite ?_ ?_
      | refine LeO.bind ?_ (fun _ => ?_)
set_option maxHeartbeats 8000000 in
set_option maxRecDepth 100000 in
theorem laws_eqIntS.calls (k : Nat) (A0 : Option Addr) (c0 : Nat) (l0 : List Int) (A1 : Option Addr) (c1 : Nat) (l1 : List Int) (r : Bool) (w : World) (hr0 : Kd.C (Kd.int .i64) w A0 l0.length l0) (hc0 : l0.length ≤ c0) (hr1 : Kd.C (Kd.int .i64) w A1 l1.length l1) (hc1 : l1.length ≤ c1) (h : laws_eqIntS.f k l0 l1 = some r) :
    Calls Try.prog 18 #[.slice A0 l0.length c0, .slice A1 l1.length c1] w fun e w' => e = .returned (.bool r) ∧ Drawn0 w w' := by
  have HR0 := Aside0.mk hr0
  have HC0 := Aside0.mk hc0
  clear hr0 hc0
  have HR1 := Aside0.mk hr1
  have HC1 := Aside0.mk hc1
  clear hr1 hc1
  have H : (if (l0.length : Int) = (l1.length : Int) then (laws_eqIntS.l0 k l0 l1 0) else (some false)) = some r := h
  clear h
  by_cases c3 : (l0.length : Int) = (l1.length : Int)
  · rw [if_pos c3] at H
    have c3b0 : ((l0.length : Int) == (l1.length : Int)) = true := beq_iff_eq.mpr c3
    have c3b1 : ((l0.length : Int) != (l1.length : Int)) = false := bne_eq_false_iff_eq.mpr c3
    have c3b2 : (l0.length == l1.length) = true := by first | simpa using c3 | (simp at c3 ⊢; omega)
    clear c3
    have H' := Aside0.mk H
    clear H
    go_enter Try.func18, Try.ntmps18
    go_wp2
    repeat (go_quiet (fail); try go_wp2)
    go_loopg [5] k (fun kq v5 w' => ∃ (x5_1 : Int), v5 = .int .i64 x5_1 ∧ Aside0 (laws_eqIntS.l0 kq l0 l1 x5_1 = some r) ∧ Aside0 (kq ≤ k) ∧ Drawn0 w w')
    case atStart => exact ⟨(0), (by first | rfl | (simp; done) | (simp [*]; done)), H', ⟨Nat.le_refl _⟩, by repeat (first | exact Drawn0.refl _ | apply Drawn0.step)⟩
    case round =>
      clear H'
      try clear c1
      try clear p2
      try clear c3
      try clear c3b0
      try clear c3b1
      try clear c3b2
      obtain ⟨x5_1, rfl, HA, HK1, ⟨m1, rfl⟩⟩ := hrel
      cases gk with
      | zero => exact absurd HA.out (by simp [laws_eqIntS.l0])
      | succ k1 =>
        have H := HA.out
        clear HA
        simp only [laws_eqIntS.l0] at H
        by_cases c4 : x5_1 < (l0.length : Int)
        · rw [if_pos c4] at H
          have c4b0 : decide (x5_1 < (l0.length : Int)) = true := decide_eq_true c4
          clear c4
          by_cases c5 : 0 ≤ x5_1
          · rw [if_pos c5] at H
            have c5b0 : decide (0 ≤ x5_1) = true := decide_eq_true c5
            clear c5
            by_cases c6 : x5_1 < (l1.length : Int)
            · rw [if_pos c6] at H
              have c6b0 : decide (x5_1 < (l1.length : Int)) = true := decide_eq_true c6
              clear c6
              by_cases c7 : (rd l0 x5_1) = (rd l1 x5_1)
              · rw [if_pos c7] at H
                have c7b0 : ((rd l0 x5_1) == (rd l1 x5_1)) = true := beq_iff_eq.mpr c7
                have c7b1 : ((rd l0 x5_1) != (rd l1 x5_1)) = false := bne_eq_false_iff_eq.mpr c7
                clear c7
                have H' := Aside0.mk H
                clear H
                have p182 : 0 ≤ (x5_1 : Int) := of_decide_eq_true (by first | (with_reducible assumption) | assumption)
                have q182 : x5_1 < (l0.length : Int) := of_decide_eq_true (by first | (with_reducible assumption) | assumption)
                obtain ⟨ad182, e182, hx182_0⟩ := Kd.at_int HR0.out x5_1 p182 q182
                cases e182
                replace p182 := eq_true p182
                replace q182 := eq_true q182
                have p183 : 0 ≤ (x5_1 : Int) := of_decide_eq_true (by first | (with_reducible assumption) | assumption)
                have q183 : x5_1 < (l1.length : Int) := of_decide_eq_true (by first | (with_reducible assumption) | assumption)
                obtain ⟨ad183, e183, hx183_0⟩ := Kd.at_int HR1.out x5_1 p183 q183
                cases e183
                replace p183 := eq_true p183
                replace q183 := eq_true q183
                go_wp2
                repeat (go_quiet (fail); try go_wp2)
                go_roundg k1
                case measure => have := HK1.out; omega
                case rel => exact ⟨(wrap64 (x5_1 + 1)), (by first | rfl | (simp; done) | (simp [*]; done)), H', ⟨by have := HK1.out; omega⟩, by repeat (first | exact Drawn0.refl _ | apply Drawn0.step)⟩
              · rw [if_neg c7] at H
                have c7b0 : ((rd l0 x5_1) == (rd l1 x5_1)) = false := beq_eq_false_iff_ne.mpr c7
                have c7b1 : ((rd l0 x5_1) != (rd l1 x5_1)) = true := bne_iff_ne.mpr c7
                obtain rfl := Option.some.inj H
                have p182 : 0 ≤ (x5_1 : Int) := of_decide_eq_true (by first | (with_reducible assumption) | assumption)
                have q182 : x5_1 < (l0.length : Int) := of_decide_eq_true (by first | (with_reducible assumption) | assumption)
                obtain ⟨ad182, e182, hx182_0⟩ := Kd.at_int HR0.out x5_1 p182 q182
                cases e182
                replace p182 := eq_true p182
                replace q182 := eq_true q182
                have p183 : 0 ≤ (x5_1 : Int) := of_decide_eq_true (by first | (with_reducible assumption) | assumption)
                have q183 : x5_1 < (l1.length : Int) := of_decide_eq_true (by first | (with_reducible assumption) | assumption)
                obtain ⟨ad183, e183, hx183_0⟩ := Kd.at_int HR1.out x5_1 p183 q183
                cases e183
                replace p183 := eq_true p183
                replace q183 := eq_true q183
                go_wp2
                repeat (go_quiet (fail); try go_wp2)
                go_ret
                exact ⟨by first | rfl | (simp; done) | (simp [*]; done), by repeat (first | exact Drawn0.refl _ | apply Drawn0.step)⟩
            · rw [if_neg c6] at H
              exact absurd H (by simp)
          · rw [if_neg c5] at H
            exact absurd H (by simp)
        · rw [if_neg c4] at H
          have c4b0 : decide (x5_1 < (l0.length : Int)) = false := decide_eq_false c4
          clear c4
          obtain rfl := Option.some.inj H
          go_wp2
          repeat (go_quiet (fail); try go_wp2)
          go_ret
          exact ⟨by first | rfl | (simp; done) | (simp [*]; done), by repeat (first | exact Drawn0.refl _ | apply Drawn0.step)⟩
  · rw [if_neg c3] at H
    have c3b0 : ((l0.length : Int) == (l1.length : Int)) = false := beq_eq_false_iff_ne.mpr c3
    have c3b1 : ((l0.length : Int) != (l1.length : Int)) = true := bne_iff_ne.mpr c3
    have c3b2 : (l0.length == l1.length) = false := by first | simpa using c3 | (simp at c3 ⊢; omega)
    obtain rfl := Option.some.inj H
    go_enter Try.func18, Try.ntmps18
    go_wp2
    repeat (go_quiet (fail); try go_wp2)
    go_ret
    exact ⟨by first | rfl | (simp; done) | (simp [*]; done), by repeat (first | exact Drawn0.refl _ | apply Drawn0.step)⟩
def laws_eqIntSS.l0 : Nat → List (List Int) → List (List Int) → Int → Option (Bool)
  | 0, _, _, _ => none
  | k + 1, x0, x1, x5 => if x5 < (x0.length : Int) then (if 0 ≤ x5 then (if x5 < (x1.length : Int) then ((laws_eqIntS.f k (rd_L1 x0 x5) (rd_L1 x1 x5)).bind fun t186 => (if t186 = true then (laws_eqIntSS.l0 k x0 x1 (wrap64 (x5 + 1))) else (some false))) else (none)) else (none)) else (some true)
def laws_eqIntSS.f (k : Nat) (l0 : List (List Int)) (l1 : List (List Int)) : Option (Bool) := if (l0.length : Int) = (l1.length : Int) then (laws_eqIntSS.l0 k l0 l1 0) else (some false)
theorem laws_eqIntSS.mono_l : ∀ k, (∀ y0 y1 y2, LeO (laws_eqIntSS.l0 k y0 y1 y2) (laws_eqIntSS.l0 (k + 1) y0 y1 y2))
  | 0 => fun _ _ _ r h => by simp [laws_eqIntSS.l0] at h
  | k + 1 => by
    have ih0 := laws_eqIntSS.mono_l k
    · intro y0 y1 y2
      unfold laws_eqIntSS.l0
      repeat' first
      | (with_reducible exact ih0 _ _ _)
      | (with_reducible exact laws_eqIntS.mono _ _ _)
      | (with_reducible exact LeO.refl _)
      | (with_reducible exact LeO.none _)
      | (with_reducible refine LeO.ite ?_ ?_)
      | (with_reducible refine LeO.bind ?_ (fun _ => ?_))
      | exact ih0 _ _ _
      | exact laws_eqIntS.mono _ _ _
      | exact LeO.none _
      | refine LeO.ite ?_ ?_
      | refine LeO.bind ?_ (fun _ => ?_)
theorem laws_eqIntSS.mono : ∀ a0 a1 k, LeO (laws_eqIntSS.f k a0 a1) (laws_eqIntSS.f (k + 1) a0 a1) := by
  intro a0 a1 k
  have ih0 := laws_eqIntSS.mono_l k
  unfold laws_eqIntSS.f
  repeat' first
      | (with_reducible exact ih0 _ _ _)
      | (with_reducible exact laws_eqIntS.mono _ _ _)
      | (with_reducible exact LeO.refl _)
      | (with_reducible exact LeO.none _)
      | (with_reducible refine LeO.ite ?_ ?_)
      | (with_reducible refine LeO.bind ?_ (fun _ => ?_))
      | exact ih0 _ _ _
      | exact laws_eqIntS.mono _ _ _
      | exact LeO.none _
      | refine LeO.ite ?_ ?_
      | refine LeO.bind ?_ (fun _ => ?_)
set_option maxHeartbeats 8000000 in
set_option maxRecDepth 100000 in
theorem laws_eqIntSS.calls (k : Nat) (A0 : Option Addr) (c0 : Nat) (l0 : List (List Int)) (A1 : Option Addr) (c1 : Nat) (l1 : List (List Int)) (r : Bool) (w : World) (hr0 : Kd.C (Kd.slice 3 (Kd.int .i64)) w A0 l0.length l0) (hc0 : l0.length ≤ c0) (hr1 : Kd.C (Kd.slice 3 (Kd.int .i64)) w A1 l1.length l1) (hc1 : l1.length ≤ c1) (h : laws_eqIntSS.f k l0 l1 = some r) :
    Calls Try.prog 11 #[.slice A0 l0.length c0, .slice A1 l1.length c1] w fun e w' => e = .returned (.bool r) ∧ Drawn0 w w' := by
  have HR0 := Aside0.mk hr0
  have HC0 := Aside0.mk hc0
  clear hr0 hc0
  have HR1 := Aside0.mk hr1
  have HC1 := Aside0.mk hc1
  clear hr1 hc1
  have H : (if (l0.length : Int) = (l1.length : Int) then (laws_eqIntSS.l0 k l0 l1 0) else (some false)) = some r := h
  clear h
  by_cases c3 : (l0.length : Int) = (l1.length : Int)
  · rw [if_pos c3] at H
    have c3b0 : ((l0.length : Int) == (l1.length : Int)) = true := beq_iff_eq.mpr c3
    have c3b1 : ((l0.length : Int) != (l1.length : Int)) = false := bne_eq_false_iff_eq.mpr c3
    have c3b2 : (l0.length == l1.length) = true := by first | simpa using c3 | (simp at c3 ⊢; omega)
    clear c3
    have H' := Aside0.mk H
    clear H
    go_enter Try.func11, Try.ntmps11
    go_wp2
    repeat (go_quiet (fail); try go_wp2)
    go_loopg [5] k (fun kq v5 w' => ∃ (x5_1 : Int), v5 = .int .i64 x5_1 ∧ Aside0 (laws_eqIntSS.l0 kq l0 l1 x5_1 = some r) ∧ Aside0 (kq ≤ k) ∧ Drawn0 w w')
    case atStart => exact ⟨(0), (by first | rfl | (simp; done) | (simp [*]; done)), H', ⟨Nat.le_refl _⟩, by repeat (first | exact Drawn0.refl _ | apply Drawn0.step)⟩
    case round =>
      clear H'
      try clear c1
      try clear p2
      try clear c3
      try clear c3b0
      try clear c3b1
      try clear c3b2
      obtain ⟨x5_1, rfl, HA, HK1, ⟨m1, rfl⟩⟩ := hrel
      cases gk with
      | zero => exact absurd HA.out (by simp [laws_eqIntSS.l0])
      | succ k1 =>
        have H := HA.out
        clear HA
        simp only [laws_eqIntSS.l0] at H
        by_cases c4 : x5_1 < (l0.length : Int)
        · rw [if_pos c4] at H
          have c4b0 : decide (x5_1 < (l0.length : Int)) = true := decide_eq_true c4
          clear c4
          by_cases c5 : 0 ≤ x5_1
          · rw [if_pos c5] at H
            have c5b0 : decide (0 ≤ x5_1) = true := decide_eq_true c5
            clear c5
            by_cases c6 : x5_1 < (l1.length : Int)
            · rw [if_pos c6] at H
              have c6b0 : decide (x5_1 < (l1.length : Int)) = true := decide_eq_true c6
              clear c6
              replace H := Option.bind_eq_some_iff.mp H
              obtain ⟨t186, A70, H⟩ := H
              replace H : (if t186 = true then (laws_eqIntSS.l0 k1 l0 l1 (wrap64 (x5_1 + 1))) else (some false)) = some r := H
              have A7 := Aside0.mk A70
              clear A70
              by_cases c8 : t186 = true
              · subst c8
                have H1 : (laws_eqIntSS.l0 k1 l0 l1 (wrap64 (x5_1 + 1))) = some r := by rw [if_pos rfl] at H; exact H
                clear H
                have H := H1
                clear H1
                have H' := Aside0.mk H
                clear H
                have p184 : 0 ≤ (x5_1 : Int) := of_decide_eq_true (by first | (with_reducible assumption) | assumption)
                have q184 : x5_1 < (l0.length : Int) := of_decide_eq_true (by first | (with_reducible assumption) | assumption)
                obtain ⟨ad184, A184_0, c184_0, e184, hx184_0, hl184_0, hi184_0⟩ := at_L1 HR0.out x5_1 p184 q184
                cases e184
                have HR184_0 := Aside0.mk hi184_0
                have HC184_0 := Aside0.mk hl184_0
                clear hi184_0 hl184_0
                replace p184 := eq_true p184
                replace q184 := eq_true q184
                have p185 : 0 ≤ (x5_1 : Int) := of_decide_eq_true (by first | (with_reducible assumption) | assumption)
                have q185 : x5_1 < (l1.length : Int) := of_decide_eq_true (by first | (with_reducible assumption) | assumption)
                obtain ⟨ad185, A185_0, c185_0, e185, hx185_0, hl185_0, hi185_0⟩ := at_L1 HR1.out x5_1 p185 q185
                cases e185
                have HR185_0 := Aside0.mk hi185_0
                have HC185_0 := Aside0.mk hl185_0
                clear hi185_0 hl185_0
                replace p185 := eq_true p185
                replace q185 := eq_true q185
                go_wp2_with (first | (go_at_call 18; (with_reducible refine (laws_eqIntS.calls k1 _ _ (rd_L1 l0 x5_1) _ _ (rd_L1 l1 x5_1) true _ ?side1 ?side2 ?side3 ?side4 A7.out).mono ?_); (case side1 => repeat (first | exact HR184_0.out | (with_reducible refine Kd.C_alloc ?_ _) | (with_reducible refine Kd.C_drewN ?_ _) | (with_reducible refine Kd.C_drew ?_))); (case side2 => exact HC184_0.out); (case side3 => repeat (first | exact HR185_0.out | (with_reducible refine Kd.C_alloc ?_ _) | (with_reducible refine Kd.C_drewN ?_ _) | (with_reducible refine Kd.C_drew ?_))); (case side4 => exact HC185_0.out); rintro e w' ⟨rfl, ⟨nd, rfl⟩⟩; (try first | exact ⟨rfl, _, World.drewN_drewN _ _ _⟩ | exact ⟨rfl, _, Eq.trans (World.drewN_drewN _ _ _) (congrArg (World.drewN _) (Nat.add_assoc _ _ _))⟩)))
                repeat (go_quiet (first | (go_at_call 18; (with_reducible refine (laws_eqIntS.calls k1 _ _ (rd_L1 l0 x5_1) _ _ (rd_L1 l1 x5_1) true _ ?side1 ?side2 ?side3 ?side4 A7.out).mono ?_); (case side1 => repeat (first | exact HR184_0.out | (with_reducible refine Kd.C_alloc ?_ _) | (with_reducible refine Kd.C_drewN ?_ _) | (with_reducible refine Kd.C_drew ?_))); (case side2 => exact HC184_0.out); (case side3 => repeat (first | exact HR185_0.out | (with_reducible refine Kd.C_alloc ?_ _) | (with_reducible refine Kd.C_drewN ?_ _) | (with_reducible refine Kd.C_drew ?_))); (case side4 => exact HC185_0.out); rintro e w' ⟨rfl, ⟨nd, rfl⟩⟩; (try first | exact ⟨rfl, _, World.drewN_drewN _ _ _⟩ | exact ⟨rfl, _, Eq.trans (World.drewN_drewN _ _ _) (congrArg (World.drewN _) (Nat.add_assoc _ _ _))⟩))); try go_wp2_with (first | (go_at_call 18; (with_reducible refine (laws_eqIntS.calls k1 _ _ (rd_L1 l0 x5_1) _ _ (rd_L1 l1 x5_1) true _ ?side1 ?side2 ?side3 ?side4 A7.out).mono ?_); (case side1 => repeat (first | exact HR184_0.out | (with_reducible refine Kd.C_alloc ?_ _) | (with_reducible refine Kd.C_drewN ?_ _) | (with_reducible refine Kd.C_drew ?_))); (case side2 => exact HC184_0.out); (case side3 => repeat (first | exact HR185_0.out | (with_reducible refine Kd.C_alloc ?_ _) | (with_reducible refine Kd.C_drewN ?_ _) | (with_reducible refine Kd.C_drew ?_))); (case side4 => exact HC185_0.out); rintro e w' ⟨rfl, ⟨nd, rfl⟩⟩; (try first | exact ⟨rfl, _, World.drewN_drewN _ _ _⟩ | exact ⟨rfl, _, Eq.trans (World.drewN_drewN _ _ _) (congrArg (World.drewN _) (Nat.add_assoc _ _ _))⟩))))
                go_roundg k1
                case measure => have := HK1.out; omega
                case rel => exact ⟨(wrap64 (x5_1 + 1)), (by first | rfl | (simp; done) | (simp [*]; done)), H', ⟨by have := HK1.out; omega⟩, by repeat (first | exact Drawn0.refl _ | apply Drawn0.step)⟩
              · replace c8 := Bool.eq_false_iff.mpr c8
                subst c8
                have H1 : (some false) = some r := by rw [if_neg (show ¬ (false = true) by decide)] at H; exact H
                clear H
                have H := H1
                clear H1
                obtain rfl := Option.some.inj H
                have p184 : 0 ≤ (x5_1 : Int) := of_decide_eq_true (by first | (with_reducible assumption) | assumption)
                have q184 : x5_1 < (l0.length : Int) := of_decide_eq_true (by first | (with_reducible assumption) | assumption)
                obtain ⟨ad184, A184_0, c184_0, e184, hx184_0, hl184_0, hi184_0⟩ := at_L1 HR0.out x5_1 p184 q184
                cases e184
                have HR184_0 := Aside0.mk hi184_0
                have HC184_0 := Aside0.mk hl184_0
                clear hi184_0 hl184_0
                replace p184 := eq_true p184
                replace q184 := eq_true q184
                have p185 : 0 ≤ (x5_1 : Int) := of_decide_eq_true (by first | (with_reducible assumption) | assumption)
                have q185 : x5_1 < (l1.length : Int) := of_decide_eq_true (by first | (with_reducible assumption) | assumption)
                obtain ⟨ad185, A185_0, c185_0, e185, hx185_0, hl185_0, hi185_0⟩ := at_L1 HR1.out x5_1 p185 q185
                cases e185
                have HR185_0 := Aside0.mk hi185_0
                have HC185_0 := Aside0.mk hl185_0
                clear hi185_0 hl185_0
                replace p185 := eq_true p185
                replace q185 := eq_true q185
                go_wp2_with (first | (go_at_call 18; (with_reducible refine (laws_eqIntS.calls k1 _ _ (rd_L1 l0 x5_1) _ _ (rd_L1 l1 x5_1) false _ ?side1 ?side2 ?side3 ?side4 A7.out).mono ?_); (case side1 => repeat (first | exact HR184_0.out | (with_reducible refine Kd.C_alloc ?_ _) | (with_reducible refine Kd.C_drewN ?_ _) | (with_reducible refine Kd.C_drew ?_))); (case side2 => exact HC184_0.out); (case side3 => repeat (first | exact HR185_0.out | (with_reducible refine Kd.C_alloc ?_ _) | (with_reducible refine Kd.C_drewN ?_ _) | (with_reducible refine Kd.C_drew ?_))); (case side4 => exact HC185_0.out); rintro e w' ⟨rfl, ⟨nd, rfl⟩⟩; (try first | exact ⟨rfl, _, World.drewN_drewN _ _ _⟩ | exact ⟨rfl, _, Eq.trans (World.drewN_drewN _ _ _) (congrArg (World.drewN _) (Nat.add_assoc _ _ _))⟩)))
                repeat (go_quiet (first | (go_at_call 18; (with_reducible refine (laws_eqIntS.calls k1 _ _ (rd_L1 l0 x5_1) _ _ (rd_L1 l1 x5_1) false _ ?side1 ?side2 ?side3 ?side4 A7.out).mono ?_); (case side1 => repeat (first | exact HR184_0.out | (with_reducible refine Kd.C_alloc ?_ _) | (with_reducible refine Kd.C_drewN ?_ _) | (with_reducible refine Kd.C_drew ?_))); (case side2 => exact HC184_0.out); (case side3 => repeat (first | exact HR185_0.out | (with_reducible refine Kd.C_alloc ?_ _) | (with_reducible refine Kd.C_drewN ?_ _) | (with_reducible refine Kd.C_drew ?_))); (case side4 => exact HC185_0.out); rintro e w' ⟨rfl, ⟨nd, rfl⟩⟩; (try first | exact ⟨rfl, _, World.drewN_drewN _ _ _⟩ | exact ⟨rfl, _, Eq.trans (World.drewN_drewN _ _ _) (congrArg (World.drewN _) (Nat.add_assoc _ _ _))⟩))); try go_wp2_with (first | (go_at_call 18; (with_reducible refine (laws_eqIntS.calls k1 _ _ (rd_L1 l0 x5_1) _ _ (rd_L1 l1 x5_1) false _ ?side1 ?side2 ?side3 ?side4 A7.out).mono ?_); (case side1 => repeat (first | exact HR184_0.out | (with_reducible refine Kd.C_alloc ?_ _) | (with_reducible refine Kd.C_drewN ?_ _) | (with_reducible refine Kd.C_drew ?_))); (case side2 => exact HC184_0.out); (case side3 => repeat (first | exact HR185_0.out | (with_reducible refine Kd.C_alloc ?_ _) | (with_reducible refine Kd.C_drewN ?_ _) | (with_reducible refine Kd.C_drew ?_))); (case side4 => exact HC185_0.out); rintro e w' ⟨rfl, ⟨nd, rfl⟩⟩; (try first | exact ⟨rfl, _, World.drewN_drewN _ _ _⟩ | exact ⟨rfl, _, Eq.trans (World.drewN_drewN _ _ _) (congrArg (World.drewN _) (Nat.add_assoc _ _ _))⟩))))
                go_ret
                exact ⟨by first | rfl | (simp; done) | (simp [*]; done), by repeat (first | exact Drawn0.refl _ | apply Drawn0.step)⟩
            · rw [if_neg c6] at H
              exact absurd H (by simp)
          · rw [if_neg c5] at H
            exact absurd H (by simp)
        · rw [if_neg c4] at H
          have c4b0 : decide (x5_1 < (l0.length : Int)) = false := decide_eq_false c4
          clear c4
          obtain rfl := Option.some.inj H
          go_wp2
          repeat (go_quiet (fail); try go_wp2)
          go_ret
          exact ⟨by first | rfl | (simp; done) | (simp [*]; done), by repeat (first | exact Drawn0.refl _ | apply Drawn0.step)⟩
  · rw [if_neg c3] at H
    have c3b0 : ((l0.length : Int) == (l1.length : Int)) = false := beq_eq_false_iff_ne.mpr c3
    have c3b1 : ((l0.length : Int) != (l1.length : Int)) = true := bne_iff_ne.mpr c3
    have c3b2 : (l0.length == l1.length) = false := by first | simpa using c3 | (simp at c3 ⊢; omega)
    obtain rfl := Option.some.inj H
    go_enter Try.func11, Try.ntmps11
    go_wp2
    repeat (go_quiet (fail); try go_wp2)
    go_ret
    exact ⟨by first | rfl | (simp; done) | (simp [*]; done), by repeat (first | exact Drawn0.refl _ | apply Drawn0.step)⟩
def laws_eqPoset.f (k : Nat) (l0_0 : List Int) (l1_0 : List Int) : Option (Bool) := (laws_eqIntS.f k l0_0 l1_0).bind fun t189 => (if t189 = true then (some true) else (some false))
theorem laws_eqPoset.mono : ∀ a0 a1 k, LeO (laws_eqPoset.f k a0 a1) (laws_eqPoset.f (k + 1) a0 a1) := by
  intro a0 a1 k
  unfold laws_eqPoset.f
  repeat' first
      | (with_reducible exact laws_eqIntS.mono _ _ _)
      | (with_reducible exact LeO.refl _)
      | (with_reducible exact LeO.none _)
      | (with_reducible refine LeO.ite ?_ ?_)
      | (with_reducible refine LeO.bind ?_ (fun _ => ?_))
      | exact laws_eqIntS.mono _ _ _
      | exact LeO.none _
      | refine LeO.ite ?_ ?_
      | refine LeO.bind ?_ (fun _ => ?_)
set_option maxHeartbeats 8000000 in
set_option maxRecDepth 100000 in
theorem laws_eqPoset.calls (k : Nat) (A0_0 : Option Addr) (c0_0 : Nat) (l0_0 : List Int) (A1_0 : Option Addr) (c1_0 : Nat) (l1_0 : List Int) (r : Bool) (w : World) (hr0_0 : Kd.C (Kd.int .i64) w A0_0 l0_0.length l0_0) (hc0_0 : l0_0.length ≤ c0_0) (hr1_0 : Kd.C (Kd.int .i64) w A1_0 l1_0.length l1_0) (hc1_0 : l1_0.length ≤ c1_0) (h : laws_eqPoset.f k l0_0 l1_0 = some r) :
    Calls Try.prog 12 #[.agg #[.slice A0_0 l0_0.length c0_0], .agg #[.slice A1_0 l1_0.length c1_0]] w fun e w' => e = .returned (.bool r) ∧ Below w.heap.size w w' := by
  have hu29 := Try.underlying29
  have HR0_0 := Aside0.mk hr0_0
  have HC0_0 := Aside0.mk hc0_0
  clear hr0_0 hc0_0
  have HR1_0 := Aside0.mk hr1_0
  have HC1_0 := Aside0.mk hc1_0
  clear hr1_0 hc1_0
  have HB := Aside0.mk (Below.refl w.heap.size w)
  have H : ((laws_eqIntS.f k l0_0 l1_0).bind fun t189 => (if t189 = true then (some true) else (some false))) = some r := h
  clear h
  replace H := Option.bind_eq_some_iff.mp H
  obtain ⟨t189, A30, H⟩ := H
  replace H : (if t189 = true then (some true) else (some false)) = some r := H
  have A3 := Aside0.mk A30
  clear A30
  by_cases c4 : t189 = true
  · subst c4
    have H1 : (some true) = some r := by rw [if_pos rfl] at H; exact H
    clear H
    have H := H1
    clear H1
    obtain rfl := Option.some.inj H
    go_enter Try.func12, Try.ntmps12
    go_wp2_with (first | ((with_reducible refine gate_dst (N := 2) rfl ?_); refine box_event ?hg (N := 2) ?hd (cs := #[.slice A0_0 l0_0.length c0_0]) (t := 29) ?hr ?_; (case hd => rfl); (case hg => rfl); (case hr => first | (go_simp; done) | (go_simp; rfl)); intro gb187 hg w5 hbox hb; have n0_ := Aside0.mk (below_step (by repeat (first | (with_reducible first | exact HB.out | apply below_alloc | apply pw_below_drewN | apply below_drew1) | exact HB.out)) hb); have n1_ := Aside0.mk (hbox); have n2_ := Aside0.mk ((by rw [hg]; exact (below_size (by repeat (first | (with_reducible first | exact HB.out | apply below_alloc | apply pw_below_drewN | apply below_drew1) | exact HB.out))) : w.heap.size ≤ gb187)); have n3_ := Aside0.mk ((by rw [hg]; exact (below_size (by repeat (first | (with_reducible first | exact HB.out | apply below_alloc | apply pw_below_drewN | apply below_drew1) | exact HB.out))) : w.heap.size ≤ gb187)); clear HB; have HB := n0_; have BK187 := n1_; have GW187 := n2_; have GE187 := n3_; clear n0_ n1_ n2_ n3_; clear hb hbox hg) | ((with_reducible refine gate_dst (N := 3) rfl ?_); refine box_event ?hg (N := 3) ?hd (cs := #[.slice A1_0 l1_0.length c1_0]) (t := 29) ?hr ?_; (case hd => rfl); (case hg => rfl); (case hr => first | (go_simp; done) | (go_simp; rfl)); intro gb188 hg w6 hbox hb; have n0_ := Aside0.mk (blk_below (g := gb187) (o := .cells #[.slice A0_0 l0_0.length c0_0] 29 (0, 0)) (by (with_reducible repeat (first | refine blk_drewN ?_ _ | refine blk_drew ?_ | refine blk_alloc ?_ _)); exact BK187.out) hb); have n1_ := Aside0.mk (below_step (by repeat (first | (with_reducible first | exact HB.out | apply below_alloc | apply pw_below_drewN | apply below_drew1 | refine below_set ?_ GE187.out) | exact HB.out)) hb); have n2_ := Aside0.mk (hbox); have n3_ := Aside0.mk ((by rw [hg]; exact (below_size (by repeat (first | (with_reducible first | exact HB.out | apply below_alloc | apply pw_below_drewN | apply below_drew1 | refine below_set ?_ GE187.out) | exact HB.out))) : w.heap.size ≤ gb188)); have n4_ := Aside0.mk ((by rw [hg]; exact (below_size (by repeat (first | (with_reducible first | exact HB.out | apply below_alloc | apply pw_below_drewN | apply below_drew1 | refine below_set ?_ GE187.out) | exact HB.out))) : w.heap.size ≤ gb188)); have n5_ := Aside0.mk ((by rw [hg]; exact Nat.ne_of_lt (blk_lt (g := gb187) (o := .cells #[.slice A0_0 l0_0.length c0_0] 29 (0, 0)) (by (with_reducible repeat (first | refine blk_drewN ?_ _ | refine blk_drew ?_ | refine blk_alloc ?_ _)); exact BK187.out)) : gb187 ≠ gb188)); have n6_ := Aside0.mk ((by rw [hg]; exact Nat.ne_of_gt (blk_lt (g := gb187) (o := .cells #[.slice A0_0 l0_0.length c0_0] 29 (0, 0)) (by (with_reducible repeat (first | refine blk_drewN ?_ _ | refine blk_drew ?_ | refine blk_alloc ?_ _)); exact BK187.out)) : gb188 ≠ gb187)); clear BK187; clear HB; have BK187 := n0_; have HB := n1_; have BK188 := n2_; have GW188 := n3_; have GE188 := n4_; have NB187_188 := n5_; have NB188_187 := n6_; clear n0_ n1_ n2_ n3_ n4_ n5_ n6_; clear hb hbox hg; have hnb7 := NB187_188.out; have hnc7 := NB188_187.out; have hcz8_0 : w6.cell? ⟨gb187, 0, none⟩ = some (.slice A0_0 l0_0.length c0_0) := (blk_cell BK187.out 0).trans rfl; have hfz8_0 := blk_frozen BK187.out 0; have hcz9_0 : w6.cell? ⟨gb188, 0, none⟩ = some (.slice A1_0 l1_0.length c1_0) := (blk_cell BK188.out 0).trans rfl; have hfz9_0 := blk_frozen BK188.out 0) | ((with_reducible refine gate_callee (f := 18) rfl ?_); refine goesL_ (some 9) rfl rfl Try.func18 (by kernel_rfl) rfl #[.slice A0_0 l0_0.length c0_0, .slice A1_0 l1_0.length c1_0] rfl (by (try simp only [List.map_toArray, List.map_cons, List.map_nil]); first | done | rfl | (simp only [List.length_drop, List.length_take]; rfl)) ?_; (with_reducible refine (laws_eqIntS.calls k _ _ l0_0 _ _ l1_0 true _ ?side1 ?side2 ?side3 ?side4 A3.out).mono ?_); (case side1 => repeat (first | exact (Kd.C_below HR0_0.out HB.out) | (with_reducible refine Kd.C_alloc ?_ _) | (with_reducible refine Kd.C_drewN ?_ _) | (with_reducible refine Kd.C_drew ?_))); (case side2 => exact HC0_0.out); (case side3 => repeat (first | exact (Kd.C_below HR1_0.out HB.out) | (with_reducible refine Kd.C_alloc ?_ _) | (with_reducible refine Kd.C_drewN ?_ _) | (with_reducible refine Kd.C_drew ?_))); (case side4 => exact HC1_0.out); rintro e w' ⟨rfl, ⟨nd, rfl⟩⟩; refine ⟨_, rfl, ?_⟩))
    go_ret
    exact ⟨by first | rfl | (simp [errW_none, errW_some] <;> rfl) | (simp [*, errW_none, errW_some] <;> rfl), by repeat (first | (with_reducible first | exact HB.out | apply below_alloc | apply pw_below_drewN | apply below_drew1 | refine below_set ?_ GE187.out | refine below_set ?_ GE188.out) | exact HB.out)⟩
  · replace c4 := Bool.eq_false_iff.mpr c4
    subst c4
    have H1 : (some false) = some r := by rw [if_neg (show ¬ (false = true) by decide)] at H; exact H
    clear H
    have H := H1
    clear H1
    obtain rfl := Option.some.inj H
    go_enter Try.func12, Try.ntmps12
    go_wp2_with (first | ((with_reducible refine gate_dst (N := 2) rfl ?_); refine box_event ?hg (N := 2) ?hd (cs := #[.slice A0_0 l0_0.length c0_0]) (t := 29) ?hr ?_; (case hd => rfl); (case hg => rfl); (case hr => first | (go_simp; done) | (go_simp; rfl)); intro gb187 hg w10 hbox hb; have n0_ := Aside0.mk (below_step (by repeat (first | (with_reducible first | exact HB.out | apply below_alloc | apply pw_below_drewN | apply below_drew1) | exact HB.out)) hb); have n1_ := Aside0.mk (hbox); have n2_ := Aside0.mk ((by rw [hg]; exact (below_size (by repeat (first | (with_reducible first | exact HB.out | apply below_alloc | apply pw_below_drewN | apply below_drew1) | exact HB.out))) : w.heap.size ≤ gb187)); have n3_ := Aside0.mk ((by rw [hg]; exact (below_size (by repeat (first | (with_reducible first | exact HB.out | apply below_alloc | apply pw_below_drewN | apply below_drew1) | exact HB.out))) : w.heap.size ≤ gb187)); clear HB; have HB := n0_; have BK187 := n1_; have GW187 := n2_; have GE187 := n3_; clear n0_ n1_ n2_ n3_; clear hb hbox hg) | ((with_reducible refine gate_dst (N := 3) rfl ?_); refine box_event ?hg (N := 3) ?hd (cs := #[.slice A1_0 l1_0.length c1_0]) (t := 29) ?hr ?_; (case hd => rfl); (case hg => rfl); (case hr => first | (go_simp; done) | (go_simp; rfl)); intro gb188 hg w11 hbox hb; have n0_ := Aside0.mk (blk_below (g := gb187) (o := .cells #[.slice A0_0 l0_0.length c0_0] 29 (0, 0)) (by (with_reducible repeat (first | refine blk_drewN ?_ _ | refine blk_drew ?_ | refine blk_alloc ?_ _)); exact BK187.out) hb); have n1_ := Aside0.mk (below_step (by repeat (first | (with_reducible first | exact HB.out | apply below_alloc | apply pw_below_drewN | apply below_drew1 | refine below_set ?_ GE187.out) | exact HB.out)) hb); have n2_ := Aside0.mk (hbox); have n3_ := Aside0.mk ((by rw [hg]; exact (below_size (by repeat (first | (with_reducible first | exact HB.out | apply below_alloc | apply pw_below_drewN | apply below_drew1 | refine below_set ?_ GE187.out) | exact HB.out))) : w.heap.size ≤ gb188)); have n4_ := Aside0.mk ((by rw [hg]; exact (below_size (by repeat (first | (with_reducible first | exact HB.out | apply below_alloc | apply pw_below_drewN | apply below_drew1 | refine below_set ?_ GE187.out) | exact HB.out))) : w.heap.size ≤ gb188)); have n5_ := Aside0.mk ((by rw [hg]; exact Nat.ne_of_lt (blk_lt (g := gb187) (o := .cells #[.slice A0_0 l0_0.length c0_0] 29 (0, 0)) (by (with_reducible repeat (first | refine blk_drewN ?_ _ | refine blk_drew ?_ | refine blk_alloc ?_ _)); exact BK187.out)) : gb187 ≠ gb188)); have n6_ := Aside0.mk ((by rw [hg]; exact Nat.ne_of_gt (blk_lt (g := gb187) (o := .cells #[.slice A0_0 l0_0.length c0_0] 29 (0, 0)) (by (with_reducible repeat (first | refine blk_drewN ?_ _ | refine blk_drew ?_ | refine blk_alloc ?_ _)); exact BK187.out)) : gb188 ≠ gb187)); clear BK187; clear HB; have BK187 := n0_; have HB := n1_; have BK188 := n2_; have GW188 := n3_; have GE188 := n4_; have NB187_188 := n5_; have NB188_187 := n6_; clear n0_ n1_ n2_ n3_ n4_ n5_ n6_; clear hb hbox hg; have hnb12 := NB187_188.out; have hnc12 := NB188_187.out; have hcz13_0 : w11.cell? ⟨gb187, 0, none⟩ = some (.slice A0_0 l0_0.length c0_0) := (blk_cell BK187.out 0).trans rfl; have hfz13_0 := blk_frozen BK187.out 0; have hcz14_0 : w11.cell? ⟨gb188, 0, none⟩ = some (.slice A1_0 l1_0.length c1_0) := (blk_cell BK188.out 0).trans rfl; have hfz14_0 := blk_frozen BK188.out 0) | ((with_reducible refine gate_callee (f := 18) rfl ?_); refine goesL_ (some 9) rfl rfl Try.func18 (by kernel_rfl) rfl #[.slice A0_0 l0_0.length c0_0, .slice A1_0 l1_0.length c1_0] rfl (by (try simp only [List.map_toArray, List.map_cons, List.map_nil]); first | done | rfl | (simp only [List.length_drop, List.length_take]; rfl)) ?_; (with_reducible refine (laws_eqIntS.calls k _ _ l0_0 _ _ l1_0 false _ ?side1 ?side2 ?side3 ?side4 A3.out).mono ?_); (case side1 => repeat (first | exact (Kd.C_below HR0_0.out HB.out) | (with_reducible refine Kd.C_alloc ?_ _) | (with_reducible refine Kd.C_drewN ?_ _) | (with_reducible refine Kd.C_drew ?_))); (case side2 => exact HC0_0.out); (case side3 => repeat (first | exact (Kd.C_below HR1_0.out HB.out) | (with_reducible refine Kd.C_alloc ?_ _) | (with_reducible refine Kd.C_drewN ?_ _) | (with_reducible refine Kd.C_drew ?_))); (case side4 => exact HC1_0.out); rintro e w' ⟨rfl, ⟨nd, rfl⟩⟩; refine ⟨_, rfl, ?_⟩))
    go_ret
    exact ⟨by first | rfl | (simp [errW_none, errW_some] <;> rfl) | (simp [*, errW_none, errW_some] <;> rfl), by repeat (first | (with_reducible first | exact HB.out | apply below_alloc | apply pw_below_drewN | apply below_drew1 | refine below_set ?_ GE187.out | refine below_set ?_ GE188.out) | exact HB.out)⟩
def laws_markIntS.l0 : Nat → List Int → Int → Int → Option (Int × List Int)
  | 0, _, _, _ => none
  | k + 1, x0, x1, x5 => if x5 < (x0.length : Int) then (if 0 ≤ x5 then (laws_markIntS.l0 k (x0.set (x5 : Int).toNat x1) (wrap64 (x1 + 1)) (wrap64 (x5 + 1))) else (none)) else (some (x1, x0))
def laws_markIntS.f (k : Nat) (l0 : List Int) (a1 : Int) : Option (Int × List Int) := laws_markIntS.l0 k l0 a1 0
theorem laws_markIntS.mono_l : ∀ k, (∀ y0 y1 y2, LeO (laws_markIntS.l0 k y0 y1 y2) (laws_markIntS.l0 (k + 1) y0 y1 y2))
  | 0 => fun _ _ _ r h => by simp [laws_markIntS.l0] at h
  | k + 1 => by
    have ih0 := laws_markIntS.mono_l k
    · intro y0 y1 y2
      unfold laws_markIntS.l0
      repeat' first
      | (with_reducible exact ih0 _ _ _)
      | (with_reducible exact LeO.refl _)
      | (with_reducible exact LeO.none _)
      | (with_reducible refine LeO.ite ?_ ?_)
      | (with_reducible refine LeO.bind ?_ (fun _ => ?_))
      | exact ih0 _ _ _
      | exact LeO.none _
      | refine LeO.ite ?_ ?_
      | refine LeO.bind ?_ (fun _ => ?_)
theorem laws_markIntS.mono : ∀ a0 a1 k, LeO (laws_markIntS.f k a0 a1) (laws_markIntS.f (k + 1) a0 a1) := by
  intro a0 a1 k
  have ih0 := laws_markIntS.mono_l k
  unfold laws_markIntS.f
  repeat' first
      | (with_reducible exact ih0 _ _ _)
      | (with_reducible exact LeO.refl _)
      | (with_reducible exact LeO.none _)
      | (with_reducible refine LeO.ite ?_ ?_)
      | (with_reducible refine LeO.bind ?_ (fun _ => ?_))
      | exact ih0 _ _ _
      | exact LeO.none _
      | refine LeO.ite ?_ ?_
      | refine LeO.bind ?_ (fun _ => ?_)
set_option maxHeartbeats 8000000 in
set_option maxRecDepth 100000 in
theorem laws_markIntS.calls (k : Nat) (P0_ : Nat → Prop) (u9000_ : Value) (l0 : List Int) (a1 : Int) (r1 : Int) (r2 : List Int) (w0 w : World) (hB : Below w0.heap.size w0 w) (ho0 : Kd.R (Kd.int .i64) 3 w w0.heap.size P0_ u9000_ l0) (h : laws_markIntS.f k l0 a1 = some (r1, r2)) :
    Calls Try.prog 19 #[u9000_, .int .i64 a1] w fun e w' => e = .returned (.int .i64 r1) ∧ Kd.R (Kd.int .i64) 3 w' w0.heap.size (fun k_ => (P0_ k_ ∨ w.heap.size ≤ k_)) u9000_ r2 ∧ Below w0.heap.size w0 w' ∧ Kept w w' (fun k_ => P0_ k_) := by
  have HO0 := Aside0.mk (show Kd.R (Kd.int .i64) 3 w w0.heap.size (fun k_ => (P0_ k_ ∨ w.heap.size ≤ k_)) u9000_ l0 from Kd.R_mono ho0 (fun k_ hk => (.inl hk)))
  have HK := Aside0.mk (Kept.refl w (fun k_ => P0_ k_))
  have HW0 := Aside0.mk hB.size
  have HB := Aside0.mk hB
  clear hB
  have H : (laws_markIntS.l0 k l0 a1 0) = some (r1, r2) := h
  clear h
  have H' := Aside0.mk H
  clear H
  go_enter Try.func19, Try.ntmps19
  go_wp2
  go_loopg [1, 5] k (fun kq v1 v5 w' => ∃ (x0_1 : List Int) (x1_1 : Int) (x5_1 : Int), v1 = .int .i64 x1_1 ∧ v5 = .int .i64 x5_1 ∧ Aside0 (laws_markIntS.l0 kq x0_1 x1_1 x5_1 = some (r1, r2)) ∧ Aside0 (kq ≤ k) ∧ Aside0 (Kd.R (Kd.int .i64) 3 w' w0.heap.size (fun k_ => (P0_ k_ ∨ w.heap.size ≤ k_)) u9000_ x0_1) ∧ Aside0 (Kept w w' (fun k_ => P0_ k_)) ∧ Aside0 (Below w0.heap.size w0 w'))
  case atStart => exact ⟨(l0), (a1), (0), (by first | rfl | (simp; done) | (simp [*]; done)), (by first | rfl | (simp; done) | (simp [*]; done)), H', ⟨Nat.le_refl _⟩, ⟨by (with_reducible repeat (first | apply Kd.R_alloc | apply Kd.R_drewN | apply Kd.R_drew)); exact HO0.out⟩, ⟨by repeat (first | (with_reducible first | exact HK.out | apply Kept.alloc | apply Kept.drewN | apply Kept.drew) | exact HK.out)⟩, ⟨by repeat (first | (with_reducible first | exact HB.out | apply below_alloc | apply pw_below_drewN | apply below_drew1) | exact HB.out)⟩⟩
  case round =>
    clear H'
    try clear c1
    try clear p2
    obtain ⟨x0_1, x1_1, x5_1, rfl, rfl, HA, HK1, HO_0, HK, HB⟩ := hrel
    cases gk with
    | zero => exact absurd HA.out (by simp [laws_markIntS.l0])
    | succ k1 =>
      have H := HA.out
      clear HA
      simp only [laws_markIntS.l0] at H
      by_cases c3 : x5_1 < (x0_1.length : Int)
      · rw [if_pos c3] at H
        have c3b0 : decide (x5_1 < (x0_1.length : Int)) = true := decide_eq_true c3
        clear c3
        by_cases c4 : 0 ≤ x5_1
        · rw [if_pos c4] at H
          have c4b0 : decide (0 ≤ x5_1) = true := decide_eq_true c4
          clear c4
          obtain ⟨y190, hy190⟩ : ∃ y_ : List Int, y_ = (x0_1.set (x5_1 : Int).toNat x1_1) := ⟨_, rfl⟩
          replace H : (laws_markIntS.l0 k1 y190 (wrap64 (x1_1 + 1)) (wrap64 (x5_1 + 1))) = some (r1, r2) := by first | (rw [hy190]; with_reducible exact H) | (have H2_ := (Option.bind_some _ _).symm.trans H; rw [hy190]; with_reducible exact H2_) | (have H2_ := (Option.bind_some _ _).symm.trans H; with_reducible exact H2_) | with_reducible exact H | (rw [hy190]; exact H) | exact H
          have Ny190 := Aside0.mk hy190
          clear hy190
          have H' := Aside0.mk H
          clear H
          obtain ⟨Ao6, co6, eo6⟩ := Kd.R_slice HO_0.out
          subst eo6
          have p5 : 0 ≤ (x5_1 : Int) := of_decide_eq_true (by first | (with_reducible assumption) | assumption)
          have q5 : (x5_1 : Int) < ((x0_1.length : Int) : Int) := of_decide_eq_true (by first | (with_reducible assumption) | assumption)
          obtain ⟨go5, co5, eo5, gb5, gl5, cl5, HG5⟩ := Kd.R_form HO_0.out (by omega)
          (first | cases eo5 | (injection eo5 with ea_ en_ ec_; (first | subst ea_ | (injection ea_ with ea_; subst ea_)); subst ec_; clear en_))
          have GB5 := Aside0.mk gb5
          have GG5 := Aside0.mk HG5
          clear gb5 gl5 HG5
          have HMgo5 := Aside0.mk (show (P0_ go5 ∨ w.heap.size ≤ go5) from (HO_0.out.1 _ rfl))
          obtain ⟨hx5_0, hf5_0⟩ := Kd.R_celln 0 HO_0.out (x5_1 : Int) p5 q5
          replace p5 := eq_true p5
          replace q5 := eq_true q5
          have HP7 := Kd.R_putg HO_0.out (x5_1 : Int) x1_1
          go_wp2_with (first | ((with_reducible refine gate_store (t := 3) (p := 15) rfl ?_); refine store_event (t := 3) (p := 15) (v := ?vo_w8) (w1 := (wr.setCell ⟨go5, (x5_1 : Int).toNat, none⟩ (.int .i64 x1_1))) ?hg ?ho ?hn ?hr ?_; (case ho => rfl); (case hg => rfl); (case hn => rfl); (case hr => first | (go_simp; done) | (go_simp; rfl)); intro w8 hw; have hg : wr.grownBy w8 (some go5) := (by rw [hw]; exact HP7.2); have hp_ : Kd.R (Kd.int .i64) 3 w8 w0.heap.size (fun k_ => (P0_ k_ ∨ w.heap.size ≤ k_)) (.slice (some ⟨go5, 0, none⟩) x0_1.length co6) y190 := (by rw [hw, Ny190.out]; exact HP7.1); clear HP7; have n0_ := Aside0.mk (hp_); have n1_ := Aside0.mk ((by rw [hw]; exact below_set (HB.out) GB5.out : Below w0.heap.size w0 w8)); have n2_ := Aside0.mk (Kept.of_grown (S := (fun k_ => P0_ k_)) hg (by repeat (first | (with_reducible first | exact HK.out | apply Kept.alloc | apply Kept.drewN | apply Kept.drew) | exact HK.out)) (fun k_ e_ => (HO_0.out.1 k_ e_))); clear HO_0; clear HB; clear HK; have HO_0 := n0_; have HB := n1_; have HK := n2_; clear n0_ n1_ n2_; clear hg hw hp_))
          go_roundg k1
          case measure => have := HK1.out; omega
          case rel => exact ⟨(y190), (wrap64 (x1_1 + 1)), (wrap64 (x5_1 + 1)), (by first | rfl | (simp; done) | (simp [*]; done)), (by first | rfl | (simp; done) | (simp [*]; done)), H', ⟨by have := HK1.out; omega⟩, ⟨by (with_reducible repeat (first | apply Kd.R_alloc | apply Kd.R_drewN | apply Kd.R_drew)); exact HO_0.out⟩, ⟨by repeat (first | (with_reducible first | exact HK.out | apply Kept.alloc | apply Kept.drewN | apply Kept.drew) | exact HK.out)⟩, ⟨by repeat (first | (with_reducible first | exact HB.out | apply below_alloc | apply pw_below_drewN | apply below_drew1) | exact HB.out)⟩⟩
        · rw [if_neg c4] at H
          exact absurd H (by simp)
      · rw [if_neg c3] at H
        have c3b0 : decide (x5_1 < (x0_1.length : Int)) = false := decide_eq_false c3
        clear c3
        simp only [Option.some.injEq, Prod.mk.injEq] at H
        obtain ⟨rfl, rfl⟩ := H
        obtain ⟨Ao9, co9, eo9⟩ := Kd.R_slice HO_0.out
        subst eo9
        go_wp2
        go_ret
        exact ⟨by first | rfl | (simp [errW_none, errW_some] <;> rfl) | (simp [*, errW_none, errW_some] <;> rfl), by (with_reducible repeat (first | apply Kd.R_alloc | apply Kd.R_drewN | apply Kd.R_drew)); exact HO_0.out, by repeat (first | (with_reducible first | exact HB.out | apply below_alloc | apply pw_below_drewN | apply below_drew1) | exact HB.out), by repeat (first | (with_reducible first | exact HK.out | apply Kept.alloc | apply Kept.drewN | apply Kept.drew) | exact HK.out)⟩
def laws_markPoset.f (k : Nat) (l0_0 : List Int) (a1 : Int) : Option (Int × List Int) := (laws_markIntS.f k l0_0 a1).bind fun bt192 => (some (bt192.1, bt192.2))
theorem laws_markPoset.mono : ∀ a0 a1 k, LeO (laws_markPoset.f k a0 a1) (laws_markPoset.f (k + 1) a0 a1) := by
  intro a0 a1 k
  unfold laws_markPoset.f
  repeat' first
      | (with_reducible exact laws_markIntS.mono _ _ _)
      | (with_reducible exact LeO.refl _)
      | (with_reducible exact LeO.none _)
      | (with_reducible refine LeO.ite ?_ ?_)
      | (with_reducible refine LeO.bind ?_ (fun _ => ?_))
      | exact laws_markIntS.mono _ _ _
      | exact LeO.none _
      | refine LeO.ite ?_ ?_
      | refine LeO.bind ?_ (fun _ => ?_)
set_option maxHeartbeats 8000000 in
set_option maxRecDepth 100000 in
theorem laws_markPoset.calls (k : Nat) (P0_0_ : Nat → Prop) (u9000_ : Value) (l0_0 : List Int) (a1 : Int) (r1 : Int) (r2 : List Int) (w0 w : World) (hB : Below w0.heap.size w0 w) (ho0_0 : Kd.R (Kd.int .i64) 3 w w0.heap.size P0_0_ u9000_ l0_0) (h : laws_markPoset.f k l0_0 a1 = some (r1, r2)) :
    Calls Try.prog 13 #[.agg #[u9000_], .int .i64 a1] w fun e w' => e = .returned (.int .i64 r1) ∧ Kd.R (Kd.int .i64) 3 w' w0.heap.size (fun k_ => (P0_0_ k_ ∨ w.heap.size ≤ k_)) u9000_ r2 ∧ Below w0.heap.size w0 w' ∧ Kept w w' (fun k_ => P0_0_ k_) := by
  have hu29 := Try.underlying29
  have HO0_0 := Aside0.mk (show Kd.R (Kd.int .i64) 3 w w0.heap.size (fun k_ => (P0_0_ k_ ∨ w.heap.size ≤ k_)) u9000_ l0_0 from Kd.R_mono ho0_0 (fun k_ hk => (.inl hk)))
  have HK := Aside0.mk (Kept.refl w (fun k_ => P0_0_ k_))
  have HW0 := Aside0.mk hB.size
  have HB := Aside0.mk hB
  clear hB
  have H : ((laws_markIntS.f k l0_0 a1).bind fun bt192 => (some (bt192.1, bt192.2))) = some (r1, r2) := h
  clear h
  replace H := Option.bind_eq_some_iff.mp H
  obtain ⟨⟨t192, t193⟩, A30, H⟩ := H
  replace H : (some (t192, t193)) = some (r1, r2) := H
  have A3 := Aside0.mk A30
  clear A30
  simp only [Option.some.injEq, Prod.mk.injEq] at H
  obtain ⟨rfl, rfl⟩ := H
  obtain ⟨Ao4, co4, eo4⟩ := Kd.R_slice HO0_0.out
  subst eo4
  go_enter Try.func13, Try.ntmps13
  go_wp2_with (first | ((with_reducible refine gate_dst (N := 2) rfl ?_); refine box_event ?hg (N := 2) ?hd (cs := #[.slice Ao4 l0_0.length co4]) (t := 29) ?hr ?_; (case hd => rfl); (case hg => rfl); (case hr => first | (go_simp; done) | (go_simp; rfl)); intro gb191 hg w5 hbox hb; have n0_ := Aside0.mk (Kd.R_below (by (with_reducible repeat (first | apply Kd.R_alloc | apply Kd.R_drewN | apply Kd.R_drew)); exact HO0_0.out) hb); have n1_ := Aside0.mk (Kept.below (S := (fun k_ => P0_0_ k_)) (by repeat (first | (with_reducible first | exact HK.out | apply Kept.alloc | apply Kept.drewN | apply Kept.drew) | exact HK.out)) hb); have n2_ := Aside0.mk (below_step (by repeat (first | (with_reducible first | exact HB.out | apply below_alloc | apply pw_below_drewN | apply below_drew1) | exact HB.out)) hb); have n3_ := Aside0.mk (hbox); have n4_ := Aside0.mk ((by rw [hg]; exact (by first | exact HK.out.1 | exact (show Kept w _ (fun k_ => P0_0_ k_) from by repeat (first | (with_reducible first | exact HK.out | apply Kept.alloc | apply Kept.drewN | apply Kept.drew) | exact HK.out)).1) : w.heap.size ≤ gb191)); have n5_ := Aside0.mk ((by rw [hg]; exact (below_size (by repeat (first | (with_reducible first | exact HB.out | apply below_alloc | apply pw_below_drewN | apply below_drew1) | exact HB.out))) : w0.heap.size ≤ gb191)); clear HO0_0; clear HK; clear HB; have HO0_0 := n0_; have HK := n1_; have HB := n2_; have BK191 := n3_; have GW191 := n4_; have GE191 := n5_; clear n0_ n1_ n2_ n3_ n4_ n5_; clear hb hbox hg; have hcz6_0 : w5.cell? ⟨gb191, 0, none⟩ = some (.slice Ao4 l0_0.length co4) := (blk_cell BK191.out 0).trans rfl; have hfz6_0 := blk_frozen BK191.out 0) | ((with_reducible refine gate_callee (f := 19) rfl ?_); refine goesL_ (some 8) rfl rfl Try.func19 (by kernel_rfl) rfl #[.slice Ao4 l0_0.length co4, .int .i64 a1] rfl (by (try simp only [List.map_toArray, List.map_cons, List.map_nil]); first | done | rfl | (simp only [List.length_drop, List.length_take]; rfl)) ?_; (with_reducible refine (laws_markIntS.calls k (fun k_ => some k_ = (.slice Ao4 l0_0.length co4 : Value).ownBlock) (.slice Ao4 l0_0.length co4) l0_0 a1 t192 t193 w0 _ ?side1 ?side2 A3.out).mono ?_); (case side1 => repeat (first | (with_reducible first | exact HB.out | apply below_alloc | apply pw_below_drewN | apply below_drew1 | refine below_set ?_ GE191.out) | exact HB.out)); (case side2 => exact Kd.R_tight rfl HO0_0.out); rintro e w7 ⟨rfl, hy0, hb, hkp⟩; refine ⟨_, rfl, ?_⟩; have n0_ := Aside0.mk (Kd.R_reok rfl hy0 (fun k_ e_ => HO0_0.out.1 k_ e_)); have n1_ := Aside0.mk (blk_kept (by (with_reducible repeat (first | refine blk_drewN ?_ _ | refine blk_drew ?_ | refine blk_alloc ?_ _)); exact BK191.out) hkp (fun hs_ => (fun e_ => (Kd.R_ne HO0_0.out BK191.out (by decide)) e_) hs_)); have n2_ := Aside0.mk (Kept.then_ (S := (fun k_ => P0_0_ k_)) (by repeat (first | (with_reducible first | exact HK.out | apply Kept.alloc | apply Kept.drewN | apply Kept.drew | refine Kept.setCell ?_ (.inr GW191.out) _) | exact HK.out)) hkp (fun k_ hs_ => (fun e_ => (HO0_0.out.1 k_ e_.symm)) hs_)); have n3_ := Aside0.mk (hb); clear HO0_0; clear BK191; clear HK; clear HB; have HO0_0 := n0_; have BK191 := n1_; have HK := n2_; have HB := n3_; clear n0_ n1_ n2_ n3_; (try clear hb); (try clear hkp); (try clear hy0)))
  go_ret
  exact ⟨by first | rfl | (simp [errW_none, errW_some] <;> rfl) | (simp [*, errW_none, errW_some] <;> rfl), by (with_reducible repeat (first | apply Kd.R_alloc | apply Kd.R_drewN | apply Kd.R_drew)); exact HO0_0.out, by repeat (first | (with_reducible first | exact HB.out | apply below_alloc | apply pw_below_drewN | apply below_drew1 | refine below_set ?_ GE191.out) | exact HB.out), by repeat (first | (with_reducible first | exact HK.out | apply Kept.alloc | apply Kept.drewN | apply Kept.drew | refine Kept.setCell ?_ (.inr GW191.out) _) | exact HK.out)⟩
def laws_markIntSS.l0 : Nat → List (List Int) → Int → Int → Option (Int × List (List Int))
  | 0, _, _, _ => none
  | k + 1, x0, x1, x5 => if x5 < (x0.length : Int) then (if 0 ≤ x5 then ((laws_markIntS.f k (rd_L1 x0 x5) x1).bind fun t => laws_markIntSS.l0 k (x0.set (x5 : Int).toNat t.2) t.1 (wrap64 (x5 + 1))) else none) else some (x1, x0)
def laws_markIntSS.f (k : Nat) (l0 : List (List Int)) (a1 : Int) : Option (Int × List (List Int)) := laws_markIntSS.l0 k l0 a1 0
theorem laws_markIntSS.mono_l : ∀ k y0 y1 y2, LeO (laws_markIntSS.l0 k y0 y1 y2) (laws_markIntSS.l0 (k + 1) y0 y1 y2)
  | 0, _, _, _ => fun r h => by cases h
  | k + 1, y0, y1, y2 => by
    rw [laws_markIntSS.l0, laws_markIntSS.l0]
    exact LeO.ite (LeO.ite (LeO.bind (laws_markIntS.mono _ _ _) fun t => laws_markIntSS.mono_l k _ _ _) (LeO.refl _)) (LeO.refl _)
theorem laws_markIntSS.mono : ∀ a0 a1 k, LeO (laws_markIntSS.f k a0 a1) (laws_markIntSS.f (k + 1) a0 a1) := fun _ _ k => laws_markIntSS.mono_l k _ _ _
open Go.Proofs.Ytldbabadbggleaa.X in
set_option maxHeartbeats 1600000 in
set_option maxRecDepth 100000 in
theorem laws_markIntSS.calls (k : Nat) (P0_ : Nat → Prop) (u9000_ : Value) (l0 : List (List Int)) (a1 : Int) (r1 : Int) (r2 : List (List Int)) (w0 w : World) (hB : Below w0.heap.size w0 w) (ho0 : Kd.S (Kd.slice 3 (Kd.int .i64)) 22 w w0.heap.size P0_ u9000_ l0) (h : laws_markIntSS.f k l0 a1 = some (r1, r2)) :
    Calls Try.prog 14 #[u9000_, .int .i64 a1] w fun e w' => e = .returned (.int .i64 r1) ∧ Kd.S (Kd.slice 3 (Kd.int .i64)) 22 w' w0.heap.size (fun k_ => (P0_ k_ ∨ w.heap.size ≤ k_)) u9000_ r2 ∧ Below w0.heap.size w0 w' ∧ Kept w w' (fun k_ => P0_ k_) := by
  have HO := Aside0.mk (show Kd.S (Kd.slice 3 (Kd.int .i64)) 22 w w0.heap.size (fun k_ => (P0_ k_ ∨ w.heap.size ≤ k_)) u9000_ l0 from Kd.S_mono ho0 (fun k_ hk => (.inl hk)))
  have HB := Aside0.mk hB
  have HF := Aside0.mk (show laws_markIntSS.l0 k l0 a1 0 = some (r1, r2) from h)
  clear ho0 hB h
  go_enter Try.func14, Try.ntmps14
  go_wp2
  go_loopg [1, 5] k (fun kq v1 v5 w' => ∃ (x0_1 : List (List Int)) (x1_1 : Int) (x5_1 : Int), v1 = .int .i64 x1_1 ∧ v5 = .int .i64 x5_1 ∧ Aside0 (laws_markIntSS.l0 kq x0_1 x1_1 x5_1 = some (r1, r2)) ∧ Aside0 (kq ≤ k) ∧ Aside0 (Kd.S (Kd.slice 3 (Kd.int .i64)) 22 w' w0.heap.size (fun k_ => (P0_ k_ ∨ w.heap.size ≤ k_)) u9000_ x0_1) ∧ Aside0 (Kept w w' (fun k_ => P0_ k_)) ∧ Aside0 (Below w0.heap.size w0 w'))
  case atStart => exact ⟨l0, a1, 0, rfl, rfl, HF, ⟨Nat.le_refl _⟩, HO, ⟨Kept.refl w _⟩, HB⟩
  case round =>
    obtain ⟨x0, x1, x5, rfl, rfl, HA, HK1, HO, HK, HB⟩ := hrel
    cases gk with
    | zero => exact absurd HA.out (by simp [laws_markIntSS.l0])
    | succ k1 =>
      have hA := HA.out
      rw [laws_markIntSS.l0] at hA
      clear HA
      obtain ⟨A, c, e0⟩ := Kd.S_slice HO.out
      subst e0
      by_cases h1 : x5 < (x0.length : Int)
      · rw [if_pos h1] at hA
        have h1b : decide (x5 < (x0.length : Int)) = true := decide_eq_true h1
        by_cases h2 : 0 ≤ x5
        · rw [if_pos h2] at hA
          obtain ⟨t, ht, hA⟩ := Option.bind_eq_some_iff.mp hA
          obtain ⟨g, c1, e1, gb, gl, cl, hg⟩ := Kd.S_form HO.out (by omega)
          cases e1
          obtain ⟨oki, cs, hcl, hM, hcell, hok, hH⟩ := Kd.S_lend HO.out ([] : List Int) x5 h2 h1
          obtain ⟨v, rfl, hR⟩ := hM
          have hx : wr.cell? ⟨g, x5.toNat, none⟩ = some v := by
            have := hcell 0 v rfl
            simpa [Kd.slice] using this
          have er : x0.getD x5.toNat [] = rd_L1 x0 x5 := rfl
          rw [er] at hR
          obtain ⟨A2, c2, e2⟩ := Kd.R_slice hR
          subst e2
          have HR := Aside0.mk hR
          have HH := Aside0.mk hH
          have HOK := Aside0.mk hok
          have HT := Aside0.mk ht
          have HA2 := Aside0.mk hA
          clear hR hH hok ht hA gb gl hg hcell hcl er
          go_wp2_with fail
          refine (laws_markIntS.calls k1 oki _ (rd_L1 x0 x5) x1 t.1 t.2 w0 _ HB.out HR.out HT.out).mono ?_
          rintro e w2 ⟨rfl, hR2, hb2, hk2⟩
          have HH2 := Kd.H_step (Kd.H_widen HH.out) (fun k_ _ hn hlt => hk2.2 k_ hlt (fun h => hn (.inl h)))
          have HO2 := Aside0.mk (Kd.H_back HH2 (Kd.M_row hR2) (fun k_ hk => hk.elim (fun h => .inl h) (fun h => .inr ⟨.inr (Nat.le_trans HK.out.1 h), h⟩)))
          have HK2 := Aside0.mk (HK.out.then_ hk2 (fun k_ h => (HOK.out k_ h).1))
          have HB2 := Aside0.mk hb2
          clear HH2 hR2 hb2 hk2
          go_wp2
          go_roundg k1
          case measure => have := HK1.out; omega
          case rel => exact ⟨x0.set x5.toNat t.2, t.1, wrap64 (x5 + 1), rfl, rfl, HA2, ⟨by have := HK1.out; omega⟩, HO2, HK2, HB2⟩
        · rw [if_neg h2] at hA
          cases hA
      · rw [if_neg h1] at hA
        have h1b : decide (x5 < (x0.length : Int)) = false := decide_eq_false h1
        injection hA with hA
        injection hA with e1 e2
        subst e1 e2
        go_wp2
        go_ret
        exact ⟨rfl, HO.out, HB.out, HK.out⟩
def laws_heldIntS.l0 : Nat → List Int → Int → Int → Option (Int)
  | 0, _, _, _ => none
  | k + 1, x0, x1, x5 => if x5 < (x0.length : Int) then (if 0 ≤ x5 then (if (rd x0 x5) = x1 then (laws_heldIntS.l0 k x0 (wrap64 (x1 + 1)) (wrap64 (x5 + 1))) else (some (-1))) else (none)) else (some x1)
def laws_heldIntS.f (k : Nat) (l0 : List Int) (a1 : Int) : Option (Int) := laws_heldIntS.l0 k l0 a1 0
theorem laws_heldIntS.mono_l : ∀ k, (∀ y0 y1 y2, LeO (laws_heldIntS.l0 k y0 y1 y2) (laws_heldIntS.l0 (k + 1) y0 y1 y2))
  | 0 => fun _ _ _ r h => by simp [laws_heldIntS.l0] at h
  | k + 1 => by
    have ih0 := laws_heldIntS.mono_l k
    · intro y0 y1 y2
      unfold laws_heldIntS.l0
      repeat' first
      | (with_reducible exact ih0 _ _ _)
      | (with_reducible exact LeO.refl _)
      | (with_reducible exact LeO.none _)
      | (with_reducible refine LeO.ite ?_ ?_)
      | (with_reducible refine LeO.bind ?_ (fun _ => ?_))
      | exact ih0 _ _ _
      | exact LeO.none _
      | refine LeO.ite ?_ ?_
      | refine LeO.bind ?_ (fun _ => ?_)
theorem laws_heldIntS.mono : ∀ a0 a1 k, LeO (laws_heldIntS.f k a0 a1) (laws_heldIntS.f (k + 1) a0 a1) := by
  intro a0 a1 k
  have ih0 := laws_heldIntS.mono_l k
  unfold laws_heldIntS.f
  repeat' first
      | (with_reducible exact ih0 _ _ _)
      | (with_reducible exact LeO.refl _)
      | (with_reducible exact LeO.none _)
      | (with_reducible refine LeO.ite ?_ ?_)
      | (with_reducible refine LeO.bind ?_ (fun _ => ?_))
      | exact ih0 _ _ _
      | exact LeO.none _
      | refine LeO.ite ?_ ?_
      | refine LeO.bind ?_ (fun _ => ?_)
set_option maxHeartbeats 8000000 in
set_option maxRecDepth 100000 in
theorem laws_heldIntS.calls (k : Nat) (A0 : Option Addr) (c0 : Nat) (l0 : List Int) (a1 : Int) (r : Int) (w : World) (hr0 : Kd.C (Kd.int .i64) w A0 l0.length l0) (hc0 : l0.length ≤ c0) (h : laws_heldIntS.f k l0 a1 = some r) :
    Calls Try.prog 20 #[.slice A0 l0.length c0, .int .i64 a1] w fun e w' => e = .returned (.int .i64 r) ∧ Drawn0 w w' := by
  have HR0 := Aside0.mk hr0
  have HC0 := Aside0.mk hc0
  clear hr0 hc0
  have H : (laws_heldIntS.l0 k l0 a1 0) = some r := h
  clear h
  have H' := Aside0.mk H
  clear H
  go_enter Try.func20, Try.ntmps20
  go_wp2
  go_loopg [1, 5] k (fun kq v1 v5 w' => ∃ (x1_1 : Int) (x5_1 : Int), v1 = .int .i64 x1_1 ∧ v5 = .int .i64 x5_1 ∧ Aside0 (laws_heldIntS.l0 kq l0 x1_1 x5_1 = some r) ∧ Aside0 (kq ≤ k) ∧ Drawn0 w w')
  case atStart => exact ⟨(a1), (0), (by first | rfl | (simp; done) | (simp [*]; done)), (by first | rfl | (simp; done) | (simp [*]; done)), H', ⟨Nat.le_refl _⟩, by repeat (first | exact Drawn0.refl _ | apply Drawn0.step)⟩
  case round =>
    clear H'
    try clear c2
    try clear p2
    obtain ⟨x1_1, x5_1, rfl, rfl, HA, HK1, ⟨m1, rfl⟩⟩ := hrel
    cases gk with
    | zero => exact absurd HA.out (by simp [laws_heldIntS.l0])
    | succ k1 =>
      have H := HA.out
      clear HA
      simp only [laws_heldIntS.l0] at H
      by_cases c3 : x5_1 < (l0.length : Int)
      · rw [if_pos c3] at H
        have c3b0 : decide (x5_1 < (l0.length : Int)) = true := decide_eq_true c3
        clear c3
        by_cases c4 : 0 ≤ x5_1
        · rw [if_pos c4] at H
          have c4b0 : decide (0 ≤ x5_1) = true := decide_eq_true c4
          clear c4
          by_cases c5 : (rd l0 x5_1) = x1_1
          · rw [if_pos c5] at H
            have c5b0 : ((rd l0 x5_1) == x1_1) = true := beq_iff_eq.mpr c5
            have c5b1 : ((rd l0 x5_1) != x1_1) = false := bne_eq_false_iff_eq.mpr c5
            clear c5
            have H' := Aside0.mk H
            clear H
            have p194 : 0 ≤ (x5_1 : Int) := of_decide_eq_true (by first | (with_reducible assumption) | assumption)
            have q194 : x5_1 < (l0.length : Int) := of_decide_eq_true (by first | (with_reducible assumption) | assumption)
            obtain ⟨ad194, e194, hx194_0⟩ := Kd.at_int HR0.out x5_1 p194 q194
            cases e194
            replace p194 := eq_true p194
            replace q194 := eq_true q194
            go_wp2
            go_roundg k1
            case measure => have := HK1.out; omega
            case rel => exact ⟨(wrap64 (x1_1 + 1)), (wrap64 (x5_1 + 1)), (by first | rfl | (simp; done) | (simp [*]; done)), (by first | rfl | (simp; done) | (simp [*]; done)), H', ⟨by have := HK1.out; omega⟩, by repeat (first | exact Drawn0.refl _ | apply Drawn0.step)⟩
          · rw [if_neg c5] at H
            have c5b0 : ((rd l0 x5_1) == x1_1) = false := beq_eq_false_iff_ne.mpr c5
            have c5b1 : ((rd l0 x5_1) != x1_1) = true := bne_iff_ne.mpr c5
            obtain rfl := Option.some.inj H
            have p194 : 0 ≤ (x5_1 : Int) := of_decide_eq_true (by first | (with_reducible assumption) | assumption)
            have q194 : x5_1 < (l0.length : Int) := of_decide_eq_true (by first | (with_reducible assumption) | assumption)
            obtain ⟨ad194, e194, hx194_0⟩ := Kd.at_int HR0.out x5_1 p194 q194
            cases e194
            replace p194 := eq_true p194
            replace q194 := eq_true q194
            go_wp2
            go_ret
            exact ⟨by first | rfl | (simp; done) | (simp [*]; done), by repeat (first | exact Drawn0.refl _ | apply Drawn0.step)⟩
        · rw [if_neg c4] at H
          exact absurd H (by simp)
      · rw [if_neg c3] at H
        have c3b0 : decide (x5_1 < (l0.length : Int)) = false := decide_eq_false c3
        clear c3
        obtain rfl := Option.some.inj H
        go_wp2
        go_ret
        exact ⟨by first | rfl | (simp; done) | (simp [*]; done), by repeat (first | exact Drawn0.refl _ | apply Drawn0.step)⟩
end Go.Proofs.Ytldbabadbggleaa.L
end
