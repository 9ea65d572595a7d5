/- Laws about the given program: the law FnSievesOfRows answers true for every input that its row lets in; no condition is added to the given statement. Contracts of the Go functions that it reaches, and the plain proof over lists. -/
import Derived.Test.YtkgngggppcmpfaaGreatWFnSievesOfRows0
import Derived.Test.YtkgngggppcmpfaaGreatKFnSievesOfRows0
import Derived.Test.YtkgngggppcmpfaaGreatKFnSievesOfRows1
import Derived.Test.YtkgngggppcmpfaaGreatKFnSievesOfRows2
import Derived.Test.YtkgngggppcmpfaaGreatKFnSievesOfRows3
import Derived.Test.YtkgngggppcmpfaaGreatKFnSievesOfRows4
import Derived.Test.YtkgngggppcmpfaaGreatKFnSievesOfRows5
import Derived.Test.YtkgngggppcmpfaaGreatKFnSievesOfRows6
import Derived.Test.YtkgngggppcmpfaaGreatKFnSievesOfRows7
section
namespace Go.Proofs.YtkgngggppcmpfaaGreat.L
open Go.RowKit Go.Proofs.YtkgngggppcmpfaaGreatW.PrintWords Go.Proofs.YtkgngggppcmpfaaGreatW.PrintLast Go.Proofs.YtkgngggppcmpfaaGreatW.PrintMore
attribute [local go_sem] max2_int min2_int max_two min_two max_three min_three max_four min_four
set_option linter.unusedVariables false
set_option linter.unusedSimpArgs false
def impl_Poset_chains.mk (n : Nat) (g : Nat → Int) : List Int := (List.range n).map g
theorem impl_Poset_chains.mk_len (n : Nat) (g : Nat → Int) : (impl_Poset_chains.mk n g).length = n := by simp [impl_Poset_chains.mk]
theorem impl_Poset_chains.mk_get (n : Nat) (g : Nat → Int) (i : Nat) (h : i < (impl_Poset_chains.mk n g).length) : (impl_Poset_chains.mk n g)[i] = g i := by simp [impl_Poset_chains.mk]
theorem impl_Poset_chains.mk_rd {n : Nat} {g : Nat → Int} {i : Nat} (h : i < n) : rd (impl_Poset_chains.mk n g) (i : Int) = g i := by
  have h2 : i < (impl_Poset_chains.mk n g).length := by rw [impl_Poset_chains.mk_len]; exact h
  simp only [rd, Int.toNat_natCast, List.getD_eq_getElem?_getD, List.getElem?_eq_getElem h2, Option.getD_some]
  exact impl_Poset_chains.mk_get _ _ _ _
theorem impl_Poset_chains.mk_set (n : Nat) (g : Nat → Int) (i : Nat) (v : Int) : (impl_Poset_chains.mk n g).set i v = impl_Poset_chains.mk n (fun j => if j = i then v else g j) := by
  refine List.ext_getElem (by rw [List.length_set, impl_Poset_chains.mk_len, impl_Poset_chains.mk_len]) fun j h1 h2 => ?_
  rw [List.getElem_set, impl_Poset_chains.mk_get, impl_Poset_chains.mk_get]
  by_cases e : i = j
  · rw [if_pos e, if_pos e.symm]
  · rw [if_neg e, if_neg (fun z => e z.symm)]
theorem impl_Poset_chains.mk_congr {n : Nat} {g g' : Nat → Int} (h : ∀ j, j < n → g j = g' j) : impl_Poset_chains.mk n g = impl_Poset_chains.mk n g' := List.map_congr_left fun j hj => h j (List.mem_range.mp hj)
theorem impl_Poset_chains.mk_zero (n : Nat) : List.replicate n (0 : Int) = impl_Poset_chains.mk n (fun _ => 0) := by
  refine List.ext_getElem (by rw [List.length_replicate, impl_Poset_chains.mk_len]) fun j h1 h2 => ?_
  rw [impl_Poset_chains.mk_get, List.getElem_replicate]
def impl_Poset_chains.out (n : Nat) (s : Int) : Nat := (wrap64 ((n : Int) - (impl_size.f s).getD 0)).toNat
def impl_Poset_chains.one (n : Nat) (s : Int) (j : Nat) : Int := if j = impl_Poset_chains.out n s then 1 else 0
def impl_Poset_chains.vis (n : Nat) (left : Lit → Bool) (j : Nat) : List Int → Int
  | [] => 0
  | s :: l => (if left (.int .i64 s) = true then 0 else impl_Poset_chains.one n s j) + impl_Poset_chains.vis n left j l
def impl_Poset_chains.tot (n : Nat) (left : Lit → Bool) (ids : List Int) : List Int := impl_Poset_chains.mk (n + 1) fun j => wrap64 (impl_Poset_chains.vis n left j ids)
def impl_Poset_chains.nd : List Int → Bool
  | [] => true
  | x :: l => !l.contains x && impl_Poset_chains.nd l
def impl_Poset_chains.ok (n : Nat) (ids : List Int) : Bool := ids.all fun s => (impl_size.f s).isSome && decide (0 ≤ wrap64 ((n : Int) - (impl_size.f s).getD 0)) && decide (wrap64 ((n : Int) - (impl_size.f s).getD 0) ≤ (n : Int)) && (Lit.int .i64 s).wf
def impl_Poset_chains.f (k : Nat) (l0_0 : List Int) (a1 : Int) : Option (List Int) := if a1 = 1 ∧ l0_0.length ≤ 1000 then (impl_Poset_ideals.f k l0_0).bind fun ids => if ids.length ≤ 1000000 ∧ impl_Poset_chains.nd ids = true ∧ impl_Poset_chains.ok l0_0.length ids = true then some (impl_Poset_chains.tot l0_0.length (fun _ => false) ids) else none else none
theorem impl_Poset_chains.mono : ∀ a0 a1 k, LeO (impl_Poset_chains.f k a0 a1) (impl_Poset_chains.f (k + 1) a0 a1) := fun l0 a1 k => LeO.ite (LeO.bind (impl_Poset_ideals.mono _ _) fun ids => LeO.refl _) (LeO.refl _)
theorem impl_Poset_chains.nd_iff : ∀ l : List Int, impl_Poset_chains.nd l = true ↔ l.Nodup
  | [] => by simp [impl_Poset_chains.nd]
  | x :: l => by simp [impl_Poset_chains.nd, impl_Poset_chains.nd_iff l]
theorem impl_Poset_chains.same (x y : Int) : (Lit.int .i64 x).sameKey (.int .i64 y) = decide (x = y) := by simp [Lit.sameKey]
theorem impl_Poset_chains.vis_out (n : Nat) (left : Lit → Bool) (j : Nat) (x : Int) : ∀ ids : List Int, x ∉ ids → impl_Poset_chains.vis n (fun z => left z && !z.sameKey (.int .i64 x)) j ids = impl_Poset_chains.vis n left j ids
  | [], _ => rfl
  | p :: l, h => by
    have e : p ≠ x := fun e => h (by rw [← e]; exact List.mem_cons_self)
    have el : (left (.int .i64 p) && !(Lit.int .i64 p).sameKey (.int .i64 x)) = left (.int .i64 p) := by rw [impl_Poset_chains.same, decide_eq_false e]; simp
    simp only [impl_Poset_chains.vis, impl_Poset_chains.vis_out n left j x l (fun hm => h (List.mem_cons_of_mem _ hm)), el]
theorem impl_Poset_chains.vis_in (n : Nat) (left : Lit → Bool) (j : Nat) (x : Int) (hl : left (.int .i64 x) = true) : ∀ ids : List Int, ids.Nodup → x ∈ ids → impl_Poset_chains.vis n (fun z => left z && !z.sameKey (.int .i64 x)) j ids = impl_Poset_chains.vis n left j ids + impl_Poset_chains.one n x j
  | [], _, h => by cases h
  | p :: l, hn, hm => by
    rw [List.nodup_cons] at hn
    by_cases e : p = x
    · subst e
      have el : (Lit.int .i64 p).sameKey (.int .i64 p) = true := by rw [impl_Poset_chains.same, decide_eq_true rfl]
      simp only [impl_Poset_chains.vis, impl_Poset_chains.vis_out n left j p l hn.1, el, hl]
      simp only [Bool.not_true, Bool.and_false, if_true, if_false, Bool.false_eq_true]
      omega
    · have hm2 : x ∈ l := (List.mem_cons.mp hm).resolve_left fun h => e h.symm
      have el : (left (.int .i64 p) && !(Lit.int .i64 p).sameKey (.int .i64 x)) = left (.int .i64 p) := by rw [impl_Poset_chains.same, decide_eq_false e]; simp
      simp only [impl_Poset_chains.vis, impl_Poset_chains.vis_in n left j x hl l hn.2 hm2, el]
      omega
theorem impl_Poset_chains.vis_start (n : Nat) (left : Lit → Bool) (j : Nat) : ∀ ids : List Int, (∀ x ∈ ids, left (.int .i64 x) = true) → impl_Poset_chains.vis n left j ids = 0
  | [], _ => rfl
  | p :: l, h => by rw [impl_Poset_chains.vis, impl_Poset_chains.vis_start n left j l (fun x hx => h x (List.mem_cons_of_mem _ hx)), if_pos (h p List.mem_cons_self)]; rfl
theorem impl_Poset_chains.wrap_add (a b : Int) : wrap64 (wrap64 a + b) = wrap64 (a + b) := by unfold wrap64; omega
theorem impl_Poset_chains.law : Go.Maps.Keyed Tryz.prog 3 := Go.Maps.int_keyed Tryz.underlying3
def impl_Poset_chains.R (v : Value) : Option (DataW Value × List MemPlace) := some (.held v, [])
def impl_Poset_chains.Rel (w : World) (base b N : Nat) (D : DataW Value) (l : List Int) : Prop :=
  (∀ y : Int, Go.Maps.has D (.int .i64 y) = l.contains y) ∧ ∀ s ∈ l, ∃ v, (∀ zd, D.atKey (.int .i64 s) zd = .held v) ∧ Kd.R (Kd.int .i64) 3 w base (fun k => k ≠ b) v (impl_Poset_chains.mk (N + 1) (impl_Poset_chains.one N s))
theorem impl_Poset_chains.Rel.nil (w : World) (base b N : Nat) : impl_Poset_chains.Rel w base b N (.map []) [] := ⟨fun y => rfl, fun s h => by cases h⟩
theorem impl_Poset_chains.Rel.grown {w w1 : World} {base b N : Nat} {D : DataW Value} {l : List Int} (h : impl_Poset_chains.Rel w base b N D l) {row : Option Nat} (hg : w.grownBy w1 row) (hr : row = none ∨ row = some b) : impl_Poset_chains.Rel w1 base b N D l :=
  ⟨h.1, fun s hs => by
    obtain ⟨v, h1, h2⟩ := h.2 s hs
    refine ⟨v, h1, Kd.R_grown h2 hg fun k hk e => ?_⟩
    rcases hr with rfl | rfl
    · cases e
    · injection e with e; exact hk e⟩
theorem impl_Poset_chains.Rel.put {w w1 : World} {base b N : Nat} {D : DataW Value} {l : List Int} {x : Int} {v : Value} (hD : Go.Maps.IsMap D) (h : impl_Poset_chains.Rel w base b N D l) (hg : w.grownBy w1 (some b))
    (hv : Kd.R (Kd.int .i64) 3 w base (fun k => k ≠ b) v (impl_Poset_chains.mk (N + 1) (impl_Poset_chains.one N x))) : impl_Poset_chains.Rel w1 base b N (D.put (.int .i64 x) (.held v)) (l ++ [x]) := by
  have h' := h.grown hg (.inr rfl)
  refine ⟨fun y => ?_, fun s hs => ?_⟩
  · by_cases e : y = x
    · subst e
      rw [Go.Maps.has_put_same hD (show WideAt.IsKeyLit (.int .i64 y) from trivial)]; simp
    · rw [Go.Maps.has_put_other (fun he => e (by injection he)), h.1 y]; simp [e]
  · by_cases e : s = x
    · subst e
      exact ⟨v, fun zd => Go.Maps.atKey_put_same hD (show WideAt.IsKeyLit (.int .i64 s) from trivial) _ _, Kd.R_grown hv hg fun k hk e => hk (by injection e)⟩
    · have hs2 : s ∈ l := by
        rcases List.mem_append.mp hs with h | h
        · exact h
        · exact absurd (List.mem_singleton.mp h) e
      obtain ⟨v', h1, h2⟩ := h'.2 s hs2
      exact ⟨v', fun zd => by rw [Go.Maps.atKey_put_other (fun he => e (by injection he)), h1], h2⟩
theorem impl_Poset_chains.zero_but (d : Int) : Go.bits .andNot .i64 0 d = 0 := by
  simp [Go.bits, IntKind.wrap]
  intro _ h
  exact absurd h (by decide)
theorem impl_Poset_chains.strike (left : Lit → Bool) (x : Int) : ((fun z : Lit => left z && !z.sameKey (.int .i64 x)) (.int .i64 x)) = false := by
  show (left (.int .i64 x) && !(Lit.int .i64 x).sameKey (.int .i64 x)) = false
  rw [impl_Poset_chains.same, decide_eq_true rfl]; simp
open Go.Proofs.YtkgngggppcmpfaaGreat.X in
set_option maxHeartbeats 3200000 in
set_option maxRecDepth 100000 in
theorem impl_Poset_chains.calls (k : Nat) (A0_0 : Option Addr) (c0_0 : Nat) (l0_0 : List Int) (a1 : Int) (r : List Int) (w : World) (hr0_0 : Kd.C (Kd.int .i64) w A0_0 l0_0.length l0_0) (hc0_0 : l0_0.length ≤ c0_0) (h : impl_Poset_chains.f k l0_0 a1 = some r) :
    Calls Tryz.prog 233 #[.agg #[.slice A0_0 l0_0.length c0_0], .int .i64 a1] w fun e w' => ∃ v0_ : Value, e = .returned v0_ ∧ Kd.R (Kd.int .i64) 3 w' w.heap.size (fun _ => True) v0_ r ∧ Below w.heap.size w w' := by
  unfold impl_Poset_chains.f at h
  split at h
  · rename_i hc0
    have HA := Aside0.mk hc0.1
    have HN0 := Aside0.mk hc0.2
    have hn_ := Option.bind_eq_some_iff.mp h
    clear h hc0
    obtain ⟨ids, hi, h⟩ := hn_
    split at h
    · rename_i hc
      have HI := Aside0.mk hi
      have HC2 := Aside0.mk hc
      have HF := Aside0.mk (Option.some.inj h)
      have HR := Aside0.mk hr0_0
      have HC := Aside0.mk hc0_0
      have HOK := Aside0.mk (show ∀ s ∈ ids, ∃ z, impl_size.f s = some z ∧ wrap64 ((l0_0.length : Int) - z) = ((impl_Poset_chains.out l0_0.length s : Nat) : Int) ∧ impl_Poset_chains.out l0_0.length s ≤ l0_0.length ∧ (Lit.int .i64 s).wf = true from fun s hs => by
        have h1 := List.all_eq_true.mp hc.2.2 s hs
        rw [Bool.and_eq_true, Bool.and_eq_true, Bool.and_eq_true, Option.isSome_iff_exists, decide_eq_true_eq, decide_eq_true_eq] at h1
        obtain ⟨⟨⟨⟨z, hz⟩, h2⟩, h3⟩, h4⟩ := h1
        rw [hz, Option.getD_some] at h2 h3
        have e : impl_Poset_chains.out l0_0.length s = (wrap64 ((l0_0.length : Int) - z)).toNat := by unfold impl_Poset_chains.out; rw [hz, Option.getD_some]
        exact ⟨z, hz, by omega, by omega, h4⟩)
      clear h hi hc hr0_0 hc0_0
      have hu := Tryz.underlying26
      have hmm := @run_makeMap Tryz.prog
      go_enter Tryz.func233, Tryz.ntmps233
      go_wp2_with fail
      refine (impl_Poset_ideals.calls k _ _ l0_0 ids _ (Kd.C_alloc HR.out _) HC.out HI.out).mono ?_
      rintro e w1 ⟨v0, rfl, hR, hb⟩
      have B1 := Aside0.mk (below_to (below_alloc (Below.refl w.heap.size w) (.cells #[.slice A0_0 l0_0.length c0_0] 26)) hb)
      obtain ⟨A1, c1, rfl, hl1, hC1⟩ := Kd.R_reads hR
      have C1 := Aside0.mk hC1
      have G1 := Aside0.mk B1.out.size
      obtain ⟨wa, hwa⟩ : ∃ wa, wa = w1.alloc (.map #[] 0) := ⟨_, rfl⟩
      have Ba := Aside0.mk (show Below w1.heap.size w1 wa by rw [hwa]; exact below_alloc (Below.refl _ _) _)
      have QP1 := Aside0.mk (show w1.cell? ⟨w.heap.size, 0, none⟩ = some (.slice A0_0 l0_0.length c0_0) from pw_cell_below hb (by simp))
      have q1 : wa.cell? ⟨w.heap.size, 0, none⟩ = some (.slice A0_0 l0_0.length c0_0) := pw_cell_below Ba.out QP1.out
      have M0 := Aside0.mk (show wa.ownsMap (H := Value) Tryz.prog 3 impl_Poset_chains.R w1.heap.size 0 (.map []) by rw [hwa]; exact World.ownsMap_made _ _ _ _)
      obtain ⟨b0, hb0⟩ : ∃ b0, b0 = w1.heap.size := ⟨_, rfl⟩
      have GB := Aside0.mk (show w1.heap.size ≤ b0 by omega)
      clear hR hb hl1 hC1
      rw [hwa] at q1
      go_wp2_with fail
      rw [← hwa] at q1 ⊢
      rw [← hb0] at M0 ⊢
      clear hwa hb0
      refine (impl_Poset_n.calls A0_0 c0_0 l0_0 _ _ (Kd.C_below (Kd.C_below HR.out B1.out) Ba.out) HC.out rfl).mono ?_
      rintro e w2 ⟨rfl, hb⟩
      have B2 := Aside0.mk (below_step Ba.out hb)
      have M2 := Aside0.mk (M0.out.kept (grown_of_below hb none) (by simp))
      have G2 := Aside0.mk (show b0 < w2.heap.size from M2.out.lt)
      clear q1 hb M0 Ba
      have hlen := Aside0.mk (show (wrap64 (wrap64 ((l0_0.length : Int) * a1) + 1)).toNat = l0_0.length + 1 ∧ 0 ≤ wrap64 (wrap64 ((l0_0.length : Int) * a1) + 1) by
        have h1 := HA.out; have h2 := HN0.out; subst h1; unfold wrap64; omega)
      have hl0 := hlen.out.2
      have HN1 := Aside0.mk (show (wrap64 (wrap64 ((l0_0.length : Int) * a1) + 1)).toNat * 8 ≤ 281474976710656 by have h1 := hlen.out.1; have h2 := HN0.out; omega)
      go_upto_region 4 with (((with_reducible refine gate_dst (N := 30) rfl ?_); refine Kd.R_make (Kd.int .i64) _ 3 rfl (N := 30) rfl 24 _ _ rfl (wrap64 (wrap64 ((l0_0.length : Int) * a1) + 1)) rfl rfl Tryz.underlying24 (.int .i64 0) 8 info3 rfl (by decide) (by omega) 0 (ok := fun _ => True) (okp := fun _ => True) rfl (fun _ hk => hk) trivial hlen.out.2 HN1.out (Below.refl _ _) (Nat.le_refl _) ?_; intro v7 w3 ho hb hg_ hnew_; clear hg_ hnew_))
      rw [hlen.out.1, impl_Poset_chains.mk_zero] at ho
      have M3 := Aside0.mk (M2.out.kept (grown_of_below hb none) (by simp))
      have B3 := Aside0.mk (below_step B2.out hb)
      obtain ⟨go7, co7, eo7, gb7, gl7, cl7, HG7⟩ := Kd.R_form ho (by rw [impl_Poset_chains.mk_len]; omega)
      subst eo7
      rw [impl_Poset_chains.mk_len] at ho ⊢
      have p7 : 0 ≤ (0 : Int) := Int.le_refl 0
      have q7 : (0 : Int) < ((l0_0.length + 1 : Nat) : Int) := by omega
      obtain ⟨hx7, hf7⟩ := Kd.R_celln 0 ho (0 : Int) p7 q7
      have HP7 := Kd.R_putg ho (0 : Int) 1
      rw [show (0 : Int).toNat = 0 from rfl] at hx7 hf7 HP7
      have HO7 := Aside0.mk ho
      have GB7 := Aside0.mk gb7
      clear hb gb7 gl7 HG7 M2 hl0 HN1 ho
      go_wp2_with (first | ((with_reducible refine gate_store (t := 3) (p := 32) rfl ?_); refine store_event (t := 3) (p := 32) (v := ?vo) (w1 := (w3.setCell ⟨go7, 0, none⟩ (.int .i64 1))) ?hg ?ho ?hn ?hr ?_; (case ho => rfl); (case hg => rfl); (case hn => rfl); (case hr => first | (go_simp; done) | (go_simp; rfl)); intro w4 hw; have hg : w3.grownBy w4 (some go7) := (by rw [hw]; exact HP7.2); have hp_ : Kd.R (Kd.int .i64) 3 w4 w2.heap.size (fun _ => True) (.slice (some ⟨go7, 0, none⟩) (l0_0.length + 1) co7) ((impl_Poset_chains.mk (l0_0.length + 1) (fun _ => 0)).set 0 1) := (by rw [hw]; exact HP7.1); clear HP7 hw; have M4 := Aside0.mk (M3.out.kept hg (fun e => by have := G2.out; have := GB7.out; injection e with e; omega)); have B4 := Aside0.mk (pw_below_grown B3.out (some go7) B3.out.size hg (fun k_ e => by have := GB7.out; have := B2.out.size; injection e with e; omega)); have HO8 := Aside0.mk hp_; clear HO7 hp_ hx7 hf7 p7 q7) | (at_mapUpdate; refine wpList_mapUpdate_own _ rfl _ _ _ 150 rfl 3 24 impl_Poset_chains.law Tryz.underlying150 impl_Poset_chains.R b0 0 (.map []) rfl M4.out (by unfold maxLen; omega) _ _ (.int .i64 0) rfl rfl (Go.Maps.keyOf_int_mk Tryz.underlying3 rfl) (.held (.slice (some ⟨go7, 0, none⟩) (l0_0.length + 1) co7)) [] rfl ?_; intro w5 hm5 hg5; have M5 := Aside0.mk hm5; have G5 := Aside0.mk hg5; clear hm5 hg5; go_frame))
      obtain ⟨D0, hD0⟩ : ∃ D0, D0 = (DataW.map [] : DataW Value).put (.int .i64 0) (.held (.slice (some ⟨go7, 0, none⟩) (l0_0.length + 1) co7)) := ⟨_, rfl⟩
      rw [← hD0] at M5
      have HD := Aside0.mk (show ∀ x : Int, Go.Maps.has D0 (.int .i64 x) = true → x = 0 from fun x hx => by
        rw [hD0] at hx
        by_cases e : x = 0
        · exact e
        · rw [Go.Maps.has_put_other (fun he => e (by injection he))] at hx; cases hx)
      have HDa := Aside0.mk (show ∀ zd, D0.atKey (.int .i64 0) zd = .held (.slice (some ⟨go7, 0, none⟩) (l0_0.length + 1) co7) from fun zd => by
        rw [hD0]; exact Go.Maps.atKey_put_same M4.out.isMap (show WideAt.IsKeyLit (.int .i64 0) from trivial) _ _)
      have HDh := Aside0.mk (show Go.Maps.has D0 (.int .i64 0) = true from Go.Maps.has_true_of_atKey HDa.out)
      have F5 := Aside0.mk (show Kd.C (Kd.int .i64) w5 (some ⟨go7, 0, none⟩) (l0_0.length + 1) (impl_Poset_chains.mk (l0_0.length + 1) (fun j => if j = 0 then 1 else 0)) by
        have h1 := Kd.R_grown (Kd.R_mono (Kd.R_bound HO8.out) (ok' := fun k_ => w2.heap.size ≤ k_) (fun k_ hk => hk.2.1)) G5.out (fun k_ hk e => by have := G2.out; injection e with e; omega)
        rw [impl_Poset_chains.mk_set] at h1
        have h2 := (Kd.R_reads' h1).2.2
        rw [impl_Poset_chains.mk_len] at h2
        exact h2)
      have B5 := Aside0.mk (show Below w1.heap.size w1 w5 from pw_below_grown B4.out (some b0) B4.out.size G5.out (fun k_ e => by have := GB.out; injection e with e; omega))
      have C5 := Aside0.mk (Kd.C_below C1.out B5.out)
      have R5 := Aside0.mk (Kd.C_below (Kd.C_below HR.out B1.out) B5.out)
      have Q5 := Aside0.mk (pw_cell_below B5.out QP1.out)
      have LB := Aside0.mk (show b0 < w5.heap.size from M5.out.lt)
      have BE := Aside0.mk (show w.heap.size ≤ w5.heap.size from Nat.le_trans G1.out B5.out.size)
      clear hD0 M4 B4 HO8 G5 GB7 B2 G2 M3 B3 QP1 C1 GB
      have HN := Aside0.mk ((impl_Poset_chains.nd_iff ids).mp HC2.out.2.1)
      have LI := Aside0.mk HC2.out.1
      clear HC2 HI
      go_loopw [6, 36] (fun v6 v36 wr => ∃ x : Int, v36 = .int .i64 x ∧ Aside0 (Below w5.heap.size w5 wr) ∧ ((Aside0 (x = 0) ∧ v6 = .map (some b0)) ∨ (Aside0 (x = 1) ∧ ∃ (b n : Nat) (D : DataW Value), v6 = .map (some b) ∧ Aside0 (wr.ownsMap Tryz.prog 3 impl_Poset_chains.R b n D) ∧ Aside0 (impl_Poset_chains.Rel wr w5.heap.size b l0_0.length D ids) ∧ Aside0 (w5.heap.size ≤ b)))) (fun _ v36 _ => 2 - (intOf v36).toNat)
      case atStart => exact ⟨0, rfl, ⟨Below.refl _ _⟩, .inl ⟨⟨rfl⟩, rfl⟩⟩
      case round =>
        obtain ⟨x, rfl, HB, hcase⟩ := hrel
        rcases hcase with ⟨HX, rfl⟩ | ⟨HX, b, n, D, rfl, MW, HL, GB⟩
        · have hd : decide (x < a1) = true := decide_eq_true (by have h1 := HX.out; have h2 := HA.out; omega)
          go_wp2_with fail
          obtain ⟨b2, hb2⟩ : ∃ b2, b2 = wr.heap.size := ⟨_, rfl⟩
          have M2 := Aside0.mk (World.ownsMap_made (H := Value) wr Tryz.prog 3 impl_Poset_chains.R)
          have HBa := Aside0.mk (below_alloc HB.out (.map #[] 0))
          have GB2 := Aside0.mk (show w5.heap.size ≤ b2 by have := HB.out.size; omega)
          rw [← hb2] at M2 ⊢
          clear hb2 HB hd
          generalize wr.alloc (.map #[] 0) = wa at M2 HBa ⊢
          go_loopw [41] (fun v41 wi => ∃ (j n2 : Nat) (D2 : DataW Value), v41 = .int .i64 j ∧ j ≤ ids.length ∧ Aside0 (wi.ownsMap Tryz.prog 3 impl_Poset_chains.R b2 n2 D2) ∧ Aside0 (impl_Poset_chains.Rel wi w5.heap.size b2 l0_0.length D2 (ids.take j)) ∧ Aside0 (n2 ≤ j) ∧ Aside0 (Below w5.heap.size w5 wi)) (fun v41 _ => ids.length - (intOf v41).toNat)
          case atStart => exact ⟨0, _, _, rfl, Nat.zero_le _, M2, ⟨impl_Poset_chains.Rel.nil _ _ _ _⟩, ⟨Nat.le_refl _⟩, HBa⟩
          case round =>
            clear M2 HBa
            obtain ⟨j, n2, D2, rfl, hj, M2, HL2, HN2, HB⟩ := hrel
            by_cases hjl : j < ids.length
            · obtain ⟨ad, e1, hx0⟩ := Kd.at_int (Kd.C_below C5.out HB.out) (j : Int) (by omega) (by omega)
              rw [Int.toNat_natCast] at hx0
              cases e1
              have hx := hx0
              rw [show rd ids (j : Int) = ids[j] by simp [rd, List.getD_eq_getElem?_getD, hjl]] at hx
              obtain ⟨z, hz, hzo, hzn, hwf⟩ := HOK.out ids[j] (List.getElem_mem hjl)
              have TK := Aside0.mk (show ids.take (j + 1) = ids.take j ++ [ids[j]] from List.take_succ_eq_append_getElem hjl)
              obtain ⟨d, hde⟩ : ∃ d, d = ids[j] := ⟨_, rfl⟩
              rw [← hde] at hx TK hz hzo hzn hwf
              have HZ := Aside0.mk hz
              have HZO := Aside0.mk hzo
              have HZN := Aside0.mk hzn
              have WF := Aside0.mk hwf
              have p4 : 0 ≤ ((j : Nat) : Int) := by omega
              have q4 : ((j : Nat) : Int) < (ids.length : Int) := by omega
              have hj1 : j + 1 ≤ ids.length := hjl
              have e3 : wrap64 ((j : Int) + 1) = ((j + 1 : Nat) : Int) := by have := LI.out; unfold wrap64; omega
              have q2 := pw_cell_below HB.out Q5.out
              clear hde hx0 hz hzo hzn hwf
              go_wp2_with fail
              refine (impl_Poset_n.calls A0_0 c0_0 l0_0 _ _ (Kd.C_below R5.out HB.out) HC.out rfl).mono ?_
              rintro e wz ⟨rfl, hbz⟩
              have M2z := Aside0.mk (M2.out.kept (grown_of_below hbz none) (by simp))
              have HLz := Aside0.mk (HL2.out.grown (grown_of_below hbz none) (.inl rfl))
              have HBz := Aside0.mk (below_step HB.out hbz)
              clear hbz hx p4 q4 q2 M2 HL2 HB
              have hl0 := hlen.out.2
              have HN1 := Aside0.mk (show (wrap64 (wrap64 ((l0_0.length : Int) * a1) + 1)).toNat * 8 ≤ 281474976710656 by have h1 := hlen.out.1; have h2 := HN0.out; omega)
              go_upto_region 13 with (((with_reducible refine gate_dst (N := 50) rfl ?_); refine Kd.R_make (Kd.int .i64) _ 3 rfl (N := 50) rfl 24 _ _ rfl (wrap64 (wrap64 ((l0_0.length : Int) * a1) + 1)) rfl rfl Tryz.underlying24 (.int .i64 0) 8 info3 rfl (by decide) (by omega) 0 (ok := fun _ => True) (okp := fun _ => True) rfl (fun _ hk => hk) trivial hlen.out.2 HN1.out (Below.refl _ _) (Nat.le_refl _) ?_; intro v11 wo ho hb hg_ hnew_; clear hg_ hnew_))
              rw [hlen.out.1, impl_Poset_chains.mk_zero] at ho
              obtain ⟨go11, co11, eo11, gb11, gl11, cl11, HG11⟩ := Kd.R_form ho (by rw [impl_Poset_chains.mk_len]; omega)
              subst eo11
              rw [impl_Poset_chains.mk_len] at ho ⊢
              have HO1 := Aside0.mk ho
              have GO := Aside0.mk gb11
              have Zo := Aside0.mk hb
              clear hl0 HN1 ho gb11 gl11 cl11 HG11 hb
              have q3 := pw_cell_below Zo.out (pw_cell_below HBz.out Q5.out)
              go_upto_region 14 with (first | (go_at_call 244; refine (impl_Poset_n.calls A0_0 c0_0 l0_0 _ _ (Kd.C_below (Kd.C_below R5.out HBz.out) Zo.out) HC.out rfl).mono ?_; rintro e wn ⟨rfl, hbn⟩; have Zn := Aside0.mk (below_step Zo.out hbn); have HO2 := Aside0.mk (Kd.R_below HO1.out hbn); clear HO1 hbn) | (go_at_call 198; refine (impl_size.calls d z _ HZ.out).mono ?_; rintro e w' ⟨rfl, ⟨nd, rfl⟩⟩))
              rw [HZO.out]
              have Zd := Aside0.mk (pw_below_drewN Zn.out nd)
              have HO3 := Aside0.mk (Kd.R_drewN HO2.out nd)
              clear Zn HO2 q3 Zo
              generalize wn.drewN nd = wd at Zd HO3 ⊢
              have M0d := Aside0.mk (M5.out.kept (grown_of_below (below_step HBz.out Zd.out) none) (by simp))
              go_wp2_with (first | (at_range; refine wpList_range_own _ rfl _ 150 rfl 3 24 impl_Poset_chains.law Tryz.underlying150 impl_Poset_chains.R b0 _ D0 rfl M0d.out ?_; intro w0 hrg0 hg0 hs0) | go_in)
              go_frame
              obtain ⟨r0, hr0⟩ : ∃ r0, r0 = wd.heap.size := ⟨_, rfl⟩
              rw [← hr0] at hrg0 ⊢
              have HR0 := Aside0.mk hrg0
              have HO4 := Aside0.mk (show Kd.R (Kd.int .i64) 3 w0 wz.heap.size (fun k_ => k_ ≠ r0) (.slice (some ⟨go11, 0, none⟩) (l0_0.length + 1) co11) (impl_Poset_chains.mk (l0_0.length + 1) (fun j_ => if false = true then impl_Poset_chains.one l0_0.length d j_ else 0)) from Kd.R_grown (Kd.R_mono (Kd.R_bound HO3.out) (fun k_ hk => by have := hk.2.2.1; omega)) hg0 (fun k_ hk e => by cases e))
              have Z0 := Aside0.mk (pw_below_grown Zd.out none Zd.out.size hg0 (fun k_ e => by cases e))
              have GR := Aside0.mk (show wz.heap.size ≤ r0 by have := Zd.out.size; omega)
              have GW := Aside0.mk (show w5.heap.size ≤ wz.heap.size from HBz.out.size)
              clear hr0 hrg0 hg0 hs0 HO3 Zd M0d
              go_loopw [13] (fun _ wk => ∃ (left : Lit → Bool) (cnt : Nat) (fl : Bool), Aside0 (wk.ranges Tryz.prog 3 impl_Poset_chains.R b0 r0 (0 + 1) D0 left cnt) ∧ Aside0 (left (.int .i64 0) = !fl) ∧ Aside0 (Kd.R (Kd.int .i64) 3 wk wz.heap.size (fun k_ => k_ ≠ r0) (.slice (some ⟨go11, 0, none⟩) (l0_0.length + 1) co11) (impl_Poset_chains.mk (l0_0.length + 1) (fun j_ => if fl = true then impl_Poset_chains.one l0_0.length d j_ else 0))) ∧ Aside0 (Below wz.heap.size wz wk)) (fun _ wk => wk.rangeLeft b0 r0)
              case atStart => exact ⟨_, _, false, HR0, ⟨by rw [HDh.out]; rfl⟩, HO4, Z0⟩
              case round =>
                clear HR0 HO4 Z0
                obtain ⟨left, cnt, fl, HRG, HL, HO, HZ2⟩ := hrel
                have hrg := HRG.out
                go_wp2_with (first | (at_next; refine wpList_next_ranges _ rfl _ rfl 3 impl_Poset_chains.law impl_Poset_chains.R (Value.int .i64) (fun v => v) (fun key kl hkey => by obtain ⟨x, rfl, _⟩ := Go.Maps.keyOf_int_inv Tryz.underlying3 hkey; exact ⟨x, rfl⟩) (fun v y _ => ⟨v, rfl⟩) b0 r0 _ D0 left cnt rfl hrg ?_ ?_) | go_in)
                · intro _ hlf
                  have hfl : fl = true := by
                    have h1 := HL.out
                    rw [hlf] at h1
                    cases fl with
                    | true => rfl
                    | false => exact absurd h1 (by decide)
                  subst hfl
                  have HO5 := Aside0.mk (show Kd.R (Kd.int .i64) 3 wr wz.heap.size (fun k_ => k_ ≠ r0) (.slice (some ⟨go11, 0, none⟩) (l0_0.length + 1) co11) (impl_Poset_chains.mk (l0_0.length + 1) (impl_Poset_chains.one l0_0.length d)) from by
                    have h1 := HO.out
                    rw [impl_Poset_chains.mk_congr (fun j_ _ => if_pos rfl)] at h1
                    exact h1)
                  have M6 := Aside0.mk (M2z.out.kept (grown_of_below HZ2.out none) (by simp))
                  have HL6 := Aside0.mk (HLz.out.grown (grown_of_below HZ2.out none) (.inl rfl))
                  have B6 := Aside0.mk (below_step HBz.out HZ2.out)
                  have HO6 := Aside0.mk (show Kd.R (Kd.int .i64) 3 wr w5.heap.size (fun k_ => k_ ≠ b2) (.slice (some ⟨go11, 0, none⟩) (l0_0.length + 1) co11) (impl_Poset_chains.mk (l0_0.length + 1) (impl_Poset_chains.one l0_0.length d)) from
                    Kd.R_lower (Kd.R_mono (Kd.R_bound HO5.out) (fun k_ hk => by have h1 := M2z.out.lt; have h2 := hk.2.1; omega)) GW.out)
                  clear hlf hrg HRG HL HO HZ2 HO5
                  go_wp2_with (first | (at_mapUpdate; refine wpList_mapUpdate_own _ rfl _ _ _ 150 rfl 3 24 impl_Poset_chains.law Tryz.underlying150 impl_Poset_chains.R b2 n2 D2 rfl M6.out (by have h1 := HN2.out; have h2 := LI.out; unfold maxLen; omega) _ _ (.int .i64 d) rfl rfl (Go.Maps.keyOf_int_mk Tryz.underlying3 WF.out) (.held (.slice (some ⟨go11, 0, none⟩) (l0_0.length + 1) co11)) [] rfl ?_; intro w7 hm7 hg7; have M7 := Aside0.mk hm7; have HL7 := Aside0.mk (impl_Poset_chains.Rel.put M6.out.isMap HL6.out hg7 HO6.out); have B7 := Aside0.mk (pw_below_grown B6.out (some b2) B6.out.size hg7 (fun k_ e => by have := GB2.out; injection e with e; omega)); clear hm7 hg7; go_frame))
                  go_roundw
                  case rel => exact ⟨j + 1, n2 + 1, _, by first | rw [e3] | rfl, hj1, M7, ⟨by rw [TK.out]; exact HL7.out⟩, ⟨by have := HN2.out; omega⟩, B7⟩
                  case measure => (try simp only [e3]); exact (Nat.sub_lt_sub_left hjl (Nat.lt_succ_self j) : ids.length - (j + 1) < ids.length - j)
                · intro x1 c1 kl y1 y2 wx cnt1 hkey hlx hRy hat hrg1 hltc hg1 hs1 hen
                  obtain ⟨x2, ex2, rfl, hwx⟩ := Go.Maps.keyOf_int_inv Tryz.underlying3 hkey
                  injection ex2 with _ ex2
                  subst ex2
                  have hy : y1 = .held c1 := by have h1 := Option.some.inj hRy; injection h1 with h1; exact h1.symm
                  subst hy
                  have hx0 : x1 = 0 := HD.out x1 (Go.Maps.has_true_of_atKey hat)
                  subst hx0
                  have hc1 : c1 = .slice (some ⟨go7, 0, none⟩) (l0_0.length + 1) co7 := by
                    have h1 := (hat .nil).symm.trans (HDa.out .nil)
                    injection h1
                  subst hc1
                  have hfl : fl = false := by
                    have h1 := HL.out
                    rw [hlx] at h1
                    cases fl with
                    | false => rfl
                    | true => exact absurd h1 (by decide)
                  subst hfl
                  have HO5 := Aside0.mk (Kd.R_grown HO.out hg1 (fun k_ hk e => hk (by injection e)))
                  have Z5 := Aside0.mk (pw_below_grown HZ2.out (some r0) HZ2.out.size hg1 (fun k_ e => by have := GR.out; injection e with e; omega))
                  have HRG1 := Aside0.mk hrg1
                  have LS := Aside0.mk (impl_Poset_chains.strike left 0)
                  have LT1 := Aside0.mk (show cnt1 < wr.rangeLeft b0 r0 by rw [hrg.left_eq]; exact hltc)
                  have hn1 : (Go.bits .andNot .i64 0 d != 0) = false := by rw [impl_Poset_chains.zero_but]; rfl
                  have hn2 : (Go.bits .andNot .i64 0 d == 0) = true := by rw [impl_Poset_chains.zero_but]; rfl
                  have HO6 := Aside0.mk (show Kd.R (Kd.int .i64) 3 wx wz.heap.size (fun k_ => k_ ≠ r0) (.slice (some ⟨go11, 0, none⟩) (l0_0.length + 1) co11) (impl_Poset_chains.mk (l0_0.length + 1) (fun j_ => if 0 = 0 then 0 else impl_Poset_chains.one l0_0.length d j_)) from by
                    have h1 := HO5.out
                    rw [impl_Poset_chains.mk_congr (g' := fun j_ => if 0 = 0 then 0 else impl_Poset_chains.one l0_0.length d j_) (fun j_ _ => by rw [if_neg (by decide), if_pos rfl])] at h1
                    exact h1)
                  clear hkey hlx hRy hat hrg1 hltc hg1 hs1 hwx HL HO HZ2 HRG hrg HO5
                  go_wp2_with fail
                  go_loopw [69] (fun v69 wk => ∃ q : Nat, v69 = .int .i64 q ∧ q ≤ l0_0.length + 1 ∧ Aside0 (Kd.R (Kd.int .i64) 3 wk wz.heap.size (fun k_ => k_ ≠ r0) (.slice (some ⟨go11, 0, none⟩) (l0_0.length + 1) co11) (impl_Poset_chains.mk (l0_0.length + 1) (fun j_ => if q = 0 then 0 else impl_Poset_chains.one l0_0.length d j_))) ∧ Aside0 (wk.ranges Tryz.prog 3 impl_Poset_chains.R b0 r0 (0 + 1) D0 (fun z => left z && !z.sameKey (.int .i64 0)) cnt1) ∧ Aside0 (Below wz.heap.size wz wk)) (fun v69 _ => l0_0.length + 1 - (intOf v69).toNat)
                  case atStart => exact ⟨0, rfl, Nat.zero_le _, HO6, HRG1, Z5⟩
                  case round =>
                    clear HO6 HRG1 Z5 hn1 hn2
                    obtain ⟨q, rfl, hq, HO, HRG, HZ2⟩ := hrel
                    by_cases hql : q < l0_0.length + 1
                    · have e4 : wrap64 ((q : Int) + 1) = ((q + 1 : Nat) : Int) := by have := HN0.out; unfold wrap64; omega
                      have hq1 : q + 1 ≤ l0_0.length + 1 := hql
                      obtain ⟨ad4, e5, hx4⟩ := Kd.at_int (Kd.C_below F5.out (below_step HBz.out HZ2.out)) (q : Int) (by omega) (by omega)
                      rw [Int.toNat_natCast] at hx4
                      cases e5
                      rw [show rd (impl_Poset_chains.mk (l0_0.length + 1) (fun j => if j = 0 then 1 else 0)) (q : Int) = if q = 0 then 1 else 0 from impl_Poset_chains.mk_rd hql, add_plain] at hx4
                      obtain ⟨c1v, hc1v⟩ : ∃ c : Int, c = if q = 0 then 1 else 0 := ⟨_, rfl⟩
                      rw [← hc1v] at hx4
                      have p5 : 0 ≤ (q : Int) := by omega
                      have q5 : (q : Int) < ((l0_0.length + 1 : Nat) : Int) := by omega
                      have q5b : decide ((q : Int) < ((l0_0.length + 1 : Nat) : Int)) = true := decide_eq_true q5
                      by_cases hq0 : q = 0
                      · rw [if_pos hq0] at hc1v
                        have hd1 : decide (0 < c1v) = true := decide_eq_true (by omega)
                        obtain ⟨J, hJ⟩ : ∃ J : Int, J = ((impl_Poset_chains.out l0_0.length d : Nat) : Int) := ⟨_, rfl⟩
                        have e6 : wrap64 ((q : Int) + ((impl_Poset_chains.out l0_0.length d : Nat) : Int)) = J := by have h1 := HZN.out; have h2 := HN0.out; rw [hJ, hq0]; unfold wrap64; omega
                        have p6 : 0 ≤ J := by omega
                        have q6 : J < ((l0_0.length + 1 : Nat) : Int) := by have h1 := HZN.out; omega
                        obtain ⟨hx6, hf6⟩ := Kd.R_celln 0 HO.out J p6 q6
                        obtain ⟨c0v, hc0v⟩ : ∃ c : Int, c = rdOf 0 (impl_Poset_chains.mk (l0_0.length + 1) (fun j_ => if q = 0 then 0 else impl_Poset_chains.one l0_0.length d j_)) J := ⟨_, rfl⟩
                        rw [← hc0v] at hx6
                        have HP := Kd.R_putg HO.out J (wrap64 (c0v + c1v))
                        have HC0 := Aside0.mk (show c0v = 0 by rw [hc0v, hJ]; show rd _ _ = 0; rw [impl_Poset_chains.mk_rd (by have h1 := HZN.out; omega), if_pos hq0])
                        have HC1 := Aside0.mk hc1v
                        have HJ := Aside0.mk hJ
                        have HQ0 := Aside0.mk hq0
                        clear hc0v hc1v hJ hq0
                        go_wp2_with (first | ((with_reducible refine gate_store (t := 3) (p := 84) rfl ?_); refine store_event (t := 3) (p := 84) (v := ?vo2) (w1 := (wr.setCell ⟨go11, J.toNat, none⟩ (.int .i64 (wrap64 (c0v + c1v))))) ?hg2 ?ho2 ?hn2 ?hr2 ?_; (case ho2 => rfl); (case hg2 => rfl); (case hn2 => rfl); (case hr2 => first | (go_simp; done) | (go_simp; rfl)); intro w8 hw; have hg : wr.grownBy w8 (some go11) := (by rw [hw]; exact HP.2); have hp_ := HP.1; rw [← hw] at hp_; have HO8 := Aside0.mk hp_; have RG8 := Aside0.mk (HRG.out.kept hg (fun e => by have h1 := LB.out; have h2 := GW.out; have h3 := GO.out; injection e with e; omega) (fun e => by have h1 := HO.out.1 go11 rfl; exact h1 (by injection e with e; exact e.symm))); have Z8 := Aside0.mk (pw_below_grown HZ2.out (some go11) HZ2.out.size hg (fun k_ e => by have := GO.out; injection e with e; omega)); clear hg hw hp_ HP))
                        go_roundw
                        case rel => exact ⟨q + 1, by first | rw [e4] | rfl, hq1, ⟨by
                          have h1 := HO8.out
                          rw [HJ.out, Int.toNat_natCast, impl_Poset_chains.mk_set, impl_Poset_chains.mk_congr (g' := fun j_ => if q + 1 = 0 then 0 else impl_Poset_chains.one l0_0.length d j_) (fun j_ _ => by
                            rw [if_neg (by omega : ¬ q + 1 = 0), HC0.out, HC1.out]; unfold impl_Poset_chains.one; rw [if_pos HQ0.out, show wrap64 (0 + 1) = 1 by unfold wrap64; omega])] at h1
                          exact h1⟩, RG8, Z8⟩
                        case measure => (try simp only [e4]); exact (Nat.sub_lt_sub_left hql (Nat.lt_succ_self q) : l0_0.length + 1 - (q + 1) < l0_0.length + 1 - q)
                      · rw [if_neg hq0] at hc1v
                        have hd1 : decide (0 < c1v) = false := decide_eq_false (by omega)
                        go_wp2_with fail
                        go_roundw
                        case rel => exact ⟨q + 1, by first | rw [e4] | rfl, hq1, ⟨by
                          have h1 := HO.out
                          rw [impl_Poset_chains.mk_congr (g' := fun j_ => if q + 1 = 0 then 0 else impl_Poset_chains.one l0_0.length d j_) (fun j_ _ => by rw [if_neg hq0, if_neg (by omega)])] at h1
                          exact h1⟩, HRG, HZ2⟩
                        case measure => (try simp only [e4]); exact (Nat.sub_lt_sub_left hql (Nat.lt_succ_self q) : l0_0.length + 1 - (q + 1) < l0_0.length + 1 - q)
                    · have HO9 := Aside0.mk (show Kd.R (Kd.int .i64) 3 wr wz.heap.size (fun k_ => k_ ≠ r0) (.slice (some ⟨go11, 0, none⟩) (l0_0.length + 1) co11) (impl_Poset_chains.mk (l0_0.length + 1) (fun j_ => if true = true then impl_Poset_chains.one l0_0.length d j_ else 0)) from by
                        have h1 := HO.out
                        rw [impl_Poset_chains.mk_congr (g' := fun j_ => if true = true then impl_Poset_chains.one l0_0.length d j_ else 0) (fun j_ _ => by rw [if_neg (by omega), if_pos rfl])] at h1
                        exact h1)
                      go_wp2_with fail
                      exact ⟨⟨_, cnt1, true, HRG, ⟨LS.out⟩, HO9, HZ2⟩, by rw [HRG.out.left_eq]; exact LT1.out⟩
            · go_wp2
              go_roundw
              case rel => exact ⟨wrap64 (x + 1), rfl, HB, .inr ⟨⟨by have h1 := HX.out; unfold wrap64; omega⟩, b2, n2, D2, rfl, M2, ⟨by have h1 := HL2.out; rwa [List.take_of_length_le (by omega)] at h1⟩, GB2⟩⟩
              case measure => show 2 - (wrap64 (x + 1)).toNat < 2 - x.toNat; have h1 := HX.out; unfold wrap64; omega
        · have hd : decide (x < a1) = false := decide_eq_false (by have h1 := HX.out; have h2 := HA.out; omega)
          have q2 := pw_cell_below HB.out Q5.out
          go_wp2_with fail
          refine (impl_Poset_n.calls A0_0 c0_0 l0_0 _ _ (Kd.C_below R5.out HB.out) HC.out rfl).mono ?_
          rintro e wy ⟨rfl, hbz⟩
          have MWz := Aside0.mk (MW.out.kept (grown_of_below hbz none) (by simp))
          have HLz := Aside0.mk (HL.out.grown (grown_of_below hbz none) (.inl rfl))
          have HBz := Aside0.mk (below_step HB.out hbz)
          clear hbz q2 MW HL HB hd
          have hl0 := hlen.out.2
          have HN1 := Aside0.mk (show (wrap64 (wrap64 ((l0_0.length : Int) * a1) + 1)).toNat * 8 ≤ 281474976710656 by have h1 := hlen.out.1; have h2 := HN0.out; omega)
          go_upto_region 29 with (((with_reducible refine gate_dst (N := 97) rfl ?_); refine Kd.R_make (Kd.int .i64) _ 3 rfl (N := 97) rfl 24 _ _ rfl (wrap64 (wrap64 ((l0_0.length : Int) * a1) + 1)) rfl rfl Tryz.underlying24 (.int .i64 0) 8 info3 rfl (by decide) (by omega) 0 (ok := fun _ => True) (okp := fun _ => True) rfl (fun _ hk => hk) trivial hlen.out.2 HN1.out (Below.refl _ _) (Nat.le_refl _) ?_; intro v17 wz ho hb hg_ hnew_; clear hg_ hnew_))
          rw [hlen.out.1, impl_Poset_chains.mk_zero] at ho
          obtain ⟨go17, co17, eo17, gb17, gl17, cl17, HG17⟩ := Kd.R_form ho (by rw [impl_Poset_chains.mk_len]; omega)
          subst eo17
          rw [impl_Poset_chains.mk_len] at ho ⊢
          have HO1 := Aside0.mk ho
          have GO := Aside0.mk gb17
          have MWo := Aside0.mk (MWz.out.kept (grown_of_below hb none) (by simp))
          have HLo := Aside0.mk (HLz.out.grown (grown_of_below hb none) (.inl rfl))
          have HBo := Aside0.mk (below_step HBz.out hb)
          have LBb := Aside0.mk (show b < wy.heap.size from MWz.out.lt)
          have Zo := Aside0.mk hb
          have HLr := Aside0.mk (fun (s : Int) (hs : s ∈ ids) => HLz.out.2 s hs)
          clear hl0 HN1 ho gb17 gl17 cl17 HG17 hb MWz HLz
          go_wp2_with (first | (at_range; refine wpList_range_own _ rfl _ 150 rfl 3 24 impl_Poset_chains.law Tryz.underlying150 impl_Poset_chains.R b n D rfl MWo.out ?_; intro w0 hrg0 hg0 hs0) | go_in)
          go_frame
          obtain ⟨r0, hr0⟩ : ∃ r0, r0 = wz.heap.size := ⟨_, rfl⟩
          rw [← hr0] at hrg0 ⊢
          have HR0 := Aside0.mk hrg0
          have HO4 := Aside0.mk (show Kd.R (Kd.int .i64) 3 w0 wy.heap.size (fun k_ => k_ ≠ r0) (.slice (some ⟨go17, 0, none⟩) (l0_0.length + 1) co17) (impl_Poset_chains.tot l0_0.length (Go.Maps.has D) ids) from by
            have h1 := Kd.R_grown (Kd.R_mono (Kd.R_bound HO1.out) (ok' := fun k_ => k_ ≠ r0) (fun k_ hk => by have := hk.2.2.1; omega)) hg0 (fun k_ hk e => by cases e)
            rw [impl_Poset_chains.mk_congr (g' := fun j_ => wrap64 (impl_Poset_chains.vis l0_0.length (Go.Maps.has D) j_ ids)) (fun j_ _ => by rw [impl_Poset_chains.vis_start _ _ _ _ (fun y hy => by rw [HLo.out.1 y]; simpa using hy)]; unfold wrap64; omega)] at h1
            exact h1)
          have Z0 := Aside0.mk (show Below wy.heap.size wy w0 from pw_below_grown Zo.out none Zo.out.size hg0 (fun k_ e => by cases e))
          have GR := Aside0.mk (show wy.heap.size ≤ r0 by have := Zo.out.size; omega)
          have BW := Aside0.mk (show Below w.heap.size w wy from below_step (below_step B1.out B5.out) HBz.out)
          have HLy := Aside0.mk (HLo.out.1)
          clear hr0 hrg0 hg0 hs0 HO1 MWo HBo HLo
          go_loopw [19] (fun _ wk => ∃ (left : Lit → Bool) (cnt : Nat), Aside0 (wk.ranges Tryz.prog 3 impl_Poset_chains.R b r0 n D left cnt) ∧ Aside0 (Kd.R (Kd.int .i64) 3 wk wy.heap.size (fun k_ => k_ ≠ r0) (.slice (some ⟨go17, 0, none⟩) (l0_0.length + 1) co17) (impl_Poset_chains.tot l0_0.length left ids)) ∧ Aside0 (Below wy.heap.size wy wk)) (fun _ wk => wk.rangeLeft b r0)
          case atStart => exact ⟨_, _, HR0, HO4, Z0⟩
          case round =>
            clear HR0 HO4 Z0
            obtain ⟨left, cnt, HRG, HO, HZ2⟩ := hrel
            have hrg := HRG.out
            go_wp2_with (first | (at_next; refine wpList_next_ranges _ rfl _ rfl 3 impl_Poset_chains.law impl_Poset_chains.R (Value.int .i64) (fun v => v) (fun key kl hkey => by obtain ⟨x, rfl, _⟩ := Go.Maps.keyOf_int_inv Tryz.underlying3 hkey; exact ⟨x, rfl⟩) (fun v y _ => ⟨v, rfl⟩) b r0 _ D left cnt rfl hrg ?_ ?_) | go_in)
            · intro _ hlf
              have hlf2 : left = fun _ => false := funext hlf
              subst hlf2
              have HO5 := Aside0.mk (Kd.R_lower HO.out BW.out.size)
              rw [HF.out] at HO5
              have BF := Aside0.mk (below_step BW.out HZ2.out)
              clear hlf hrg HRG HO HZ2
              go_wp2
              go_ret
              exact ⟨_, rfl, Kd.R_mono HO5.out (fun _ _ => trivial), BF.out⟩
            · intro x1 c1 kl y1 y2 wx cnt1 hkey hlx hRy hat hrg1 hltc hg1 hs1 hen
              obtain ⟨x2, ex2, rfl, hwx⟩ := Go.Maps.keyOf_int_inv Tryz.underlying3 hkey
              injection ex2 with _ ex2
              subst ex2
              have hy : y1 = .held c1 := by have h1 := Option.some.inj hRy; injection h1 with h1; exact h1.symm
              subst hy
              have hmem : x1 ∈ ids := by
                have h1 := HLy.out x1
                rw [Go.Maps.has_true_of_atKey hat] at h1
                simpa using h1.symm
              obtain ⟨v1, hv1, hR1⟩ := HLr.out x1 hmem
              have hc1 : c1 = v1 := by
                have h1 := (hat .nil).symm.trans (hv1 .nil)
                injection h1
              subst hc1
              obtain ⟨A3, c3, e3, hl3, hC3⟩ := Kd.R_reads hR1
              rw [impl_Poset_chains.mk_len] at e3 hl3 hC3
              subst e3
              have C3 := Aside0.mk hC3
              have HV := Aside0.mk (fun j_ => impl_Poset_chains.vis_in l0_0.length left j_ x1 hlx ids HN.out hmem)
              have HO5 := Aside0.mk (Kd.R_grown HO.out hg1 (fun k_ hk e => hk (by injection e)))
              have Z5 := Aside0.mk (pw_below_grown HZ2.out (some r0) HZ2.out.size hg1 (fun k_ e => by have := GR.out; injection e with e; omega))
              have HRG1 := Aside0.mk hrg1
              have LT1 := Aside0.mk (show cnt1 < wr.rangeLeft b r0 by rw [hrg.left_eq]; exact hltc)
              have HO6 := Aside0.mk (show Kd.R (Kd.int .i64) 3 wx wy.heap.size (fun k_ => k_ ≠ r0) (.slice (some ⟨go17, 0, none⟩) (l0_0.length + 1) co17) (impl_Poset_chains.mk (l0_0.length + 1) (fun j_ => if j_ < 0 then wrap64 (impl_Poset_chains.vis l0_0.length left j_ ids + impl_Poset_chains.one l0_0.length x1 j_) else wrap64 (impl_Poset_chains.vis l0_0.length left j_ ids))) from by
                have h1 := HO5.out
                unfold impl_Poset_chains.tot at h1
                rw [impl_Poset_chains.mk_congr (g' := fun j_ => if j_ < 0 then wrap64 (impl_Poset_chains.vis l0_0.length left j_ ids + impl_Poset_chains.one l0_0.length x1 j_) else wrap64 (impl_Poset_chains.vis l0_0.length left j_ ids)) (fun j_ _ => by rw [if_neg (by omega)])] at h1
                exact h1)
              clear hkey hlx hRy hat hrg1 hltc hg1 hs1 hwx HO HZ2 HRG hrg HO5 hmem hv1 hR1 hl3 hC3
              go_wp2_with fail
              go_loopw [106] (fun v106 wk => ∃ q : Nat, v106 = .int .i64 q ∧ q ≤ l0_0.length + 1 ∧ Aside0 (Kd.R (Kd.int .i64) 3 wk wy.heap.size (fun k_ => k_ ≠ r0) (.slice (some ⟨go17, 0, none⟩) (l0_0.length + 1) co17) (impl_Poset_chains.mk (l0_0.length + 1) (fun j_ => if j_ < q then wrap64 (impl_Poset_chains.vis l0_0.length left j_ ids + impl_Poset_chains.one l0_0.length x1 j_) else wrap64 (impl_Poset_chains.vis l0_0.length left j_ ids)))) ∧ Aside0 (wk.ranges Tryz.prog 3 impl_Poset_chains.R b r0 n D (fun z => left z && !z.sameKey (.int .i64 x1)) cnt1) ∧ Aside0 (Below wy.heap.size wy wk)) (fun v106 _ => l0_0.length + 1 - (intOf v106).toNat)
              case atStart => exact ⟨0, rfl, Nat.zero_le _, HO6, HRG1, Z5⟩
              case round =>
                clear HO6 HRG1 Z5
                obtain ⟨q, rfl, hq, HO, HRG, HZ2⟩ := hrel
                by_cases hql : q < l0_0.length + 1
                · have e4 : wrap64 ((q : Int) + 1) = ((q + 1 : Nat) : Int) := by have := HN0.out; unfold wrap64; omega
                  have hq1 : q + 1 ≤ l0_0.length + 1 := hql
                  obtain ⟨ad4, e5, hx4⟩ := Kd.at_int (Kd.C_below C3.out HZ2.out) (q : Int) (by omega) (by omega)
                  rw [Int.toNat_natCast] at hx4
                  cases e5
                  rw [impl_Poset_chains.mk_rd hql] at hx4
                  obtain ⟨c1v, hc1v⟩ : ∃ c : Int, c = impl_Poset_chains.one l0_0.length x1 q := ⟨_, rfl⟩
                  rw [← hc1v] at hx4
                  obtain ⟨J, hJ⟩ : ∃ J : Int, J = (q : Int) := ⟨_, rfl⟩
                  have p5 : 0 ≤ (q : Int) := by omega
                  have q5 : (q : Int) < ((l0_0.length + 1 : Nat) : Int) := by omega
                  have q5b : decide ((q : Int) < ((l0_0.length + 1 : Nat) : Int)) = true := decide_eq_true q5
                  obtain ⟨hx6, hf6⟩ := Kd.R_celln 0 HO.out (q : Int) p5 q5
                  rw [Int.toNat_natCast] at hx6 hf6
                  obtain ⟨c0v, hc0v⟩ : ∃ c : Int, c = rdOf 0 (impl_Poset_chains.mk (l0_0.length + 1) (fun j_ => if j_ < q then wrap64 (impl_Poset_chains.vis l0_0.length left j_ ids + impl_Poset_chains.one l0_0.length x1 j_) else wrap64 (impl_Poset_chains.vis l0_0.length left j_ ids))) (q : Int) := ⟨_, rfl⟩
                  rw [← hc0v] at hx6
                  have HP := Kd.R_putg HO.out (q : Int) (wrap64 (c0v + c1v))
                  rw [Int.toNat_natCast] at HP
                  have HC0 := Aside0.mk (show c0v = wrap64 (impl_Poset_chains.vis l0_0.length left q ids) by rw [hc0v]; show rd _ _ = _; rw [impl_Poset_chains.mk_rd hql, if_neg (by omega)])
                  have HC1 := Aside0.mk hc1v
                  clear hc0v hc1v hJ
                  go_wp2_with (first | ((with_reducible refine gate_store (t := 3) (p := 117) rfl ?_); refine store_event (t := 3) (p := 117) (v := ?vo3) (w1 := (wr.setCell ⟨go17, q, none⟩ (.int .i64 (wrap64 (c0v + c1v))))) ?hg3 ?ho3 ?hn3 ?hr3 ?_; (case ho3 => rfl); (case hg3 => rfl); (case hn3 => rfl); (case hr3 => first | (go_simp; done) | (go_simp; rfl)); intro w8 hw; have hg : wr.grownBy w8 (some go17) := (by rw [hw]; exact HP.2); have hp_ := HP.1; rw [← hw] at hp_; have HO8 := Aside0.mk hp_; have RG8 := Aside0.mk (HRG.out.kept hg (fun e => by have h1 := LBb.out; have h3 := GO.out; injection e with e; omega) (fun e => by have h1 := HO.out.1 go17 rfl; exact h1 (by injection e with e; exact e.symm))); have Z8 := Aside0.mk (pw_below_grown HZ2.out (some go17) HZ2.out.size hg (fun k_ e => by have := GO.out; injection e with e; omega)); clear hg hw hp_ HP))
                  go_roundw
                  case rel => exact ⟨q + 1, by first | rw [e4] | rfl, hq1, ⟨by
                    have h1 := HO8.out
                    rw [impl_Poset_chains.mk_set, impl_Poset_chains.mk_congr (g' := fun j_ => if j_ < q + 1 then wrap64 (impl_Poset_chains.vis l0_0.length left j_ ids + impl_Poset_chains.one l0_0.length x1 j_) else wrap64 (impl_Poset_chains.vis l0_0.length left j_ ids)) (fun j_ _ => by
                      by_cases ej : j_ = q
                      · subst ej
                        rw [if_pos rfl, if_pos (by omega), HC0.out, HC1.out, impl_Poset_chains.wrap_add]
                      · by_cases ej2 : j_ < q
                        · rw [if_neg ej, if_pos ej2, if_pos (by omega)]
                        · rw [if_neg ej, if_neg ej2, if_neg (by omega)])] at h1
                    exact h1⟩, RG8, Z8⟩
                  case measure => (try simp only [e4]); exact (Nat.sub_lt_sub_left hql (Nat.lt_succ_self q) : l0_0.length + 1 - (q + 1) < l0_0.length + 1 - q)
                · have HO9 := Aside0.mk (show Kd.R (Kd.int .i64) 3 wr wy.heap.size (fun k_ => k_ ≠ r0) (.slice (some ⟨go17, 0, none⟩) (l0_0.length + 1) co17) (impl_Poset_chains.tot l0_0.length (fun z => left z && !z.sameKey (.int .i64 x1)) ids) from by
                    have h1 := HO.out
                    rw [impl_Poset_chains.mk_congr (g' := fun j_ => wrap64 (impl_Poset_chains.vis l0_0.length (fun z => left z && !z.sameKey (.int .i64 x1)) j_ ids)) (fun j_ hj => by rw [if_pos (by omega), HV.out j_])] at h1
                    exact h1)
                  go_wp2_with fail
                  exact ⟨⟨_, cnt1, HRG, HO9, HZ2⟩, by rw [HRG.out.left_eq]; exact LT1.out⟩
    · cases h
  · cases h
end Go.Proofs.YtkgngggppcmpfaaGreat.L
end
section
namespace Go.Proofs.YtkgngggppcmpfaaGreat.L
open Go.RowKit Go.Proofs.YtkgngggppcmpfaaGreatW.PrintWords Go.Proofs.YtkgngggppcmpfaaGreatW.PrintLast Go.Proofs.YtkgngggppcmpfaaGreatW.PrintMore Go.Proofs.YtkgngggppcmpfaaGreat.X
attribute [local go_sem] max2_int min2_int max_two min_two max_three min_three max_four min_four
set_option linter.unusedVariables false
set_option linter.unusedSimpArgs false
def impl_BoxBySum.f (k : Nat) (a0 : Int) (a1 : Int) (a2 : Int) : Option (List Int × Bool) := (impl_Rectangle.f k a0 a1).bind fun bt711 => (if bt711.2 = true then ((impl_isBound.f a2).bind fun t716 => (if t716 = true then ((impl_Poset_chains.f k bt711.1 a2).bind fun t717 => (some (t717, true))) else (some (([] : List Int), false)))) else (some (([] : List Int), false)))
theorem impl_BoxBySum.mono : ∀ a0 a1 a2 k, LeO (impl_BoxBySum.f k a0 a1 a2) (impl_BoxBySum.f (k + 1) a0 a1 a2) := by
  intro a0 a1 a2 k
  unfold impl_BoxBySum.f
  repeat' (with_reducible first | apply impl_Poset_chains.mono | apply impl_Rectangle.mono | exact LeO.refl _ | exact LeO.none _ | refine LeO.ite ?_ ?_ | refine LeO.bind ?_ (fun _ => ?_))
set_option maxHeartbeats 8000000 in
set_option maxRecDepth 100000 in
theorem impl_BoxBySum.calls (k : Nat) (a0 : Int) (a1 : Int) (a2 : Int) (r1 : List Int) (r2 : Bool) (w : World) (h : impl_BoxBySum.f k a0 a1 a2 = some (r1, r2)) :
    Calls Tryz.prog 77 #[.int .i64 a0, .int .i64 a1, .int .i64 a2] w fun e w' => ∃ v0_ : Value, e = .returned (.tuple #[v0_, .bool r2]) ∧ Kd.R (Kd.int .i64) 3 w' w.heap.size (fun _ => True) v0_ r1 ∧ Below w.heap.size w w' := by
  have hu26 := Tryz.underlying26
  have HB := Aside0.mk (Below.refl w.heap.size w)
  have H : ((impl_Rectangle.f k a0 a1).bind fun bt711 => (if bt711.2 = true then ((impl_isBound.f a2).bind fun t716 => (if t716 = true then ((impl_Poset_chains.f k bt711.1 a2).bind fun t717 => (some (t717, true))) else (some (([] : List Int), false)))) else (some (([] : List Int), false)))) = some (r1, r2) := h
  clear h
  obtain ⟨⟨t711, t714⟩, A4, H⟩ := bs H; (try dsimp only at H)
  by_cases c5 : t714 = true
  · subst c5
    rw [if_pos rfl] at H
    obtain ⟨t716, A6, H⟩ := bs H; (try dsimp only at H)
    by_cases c7 : t716 = true
    · subst c7
      rw [if_pos rfl] at H
      obtain ⟨t717, A8, H⟩ := bs H; (try dsimp only at H)
      simp only [Option.some.injEq, Prod.mk.injEq] at H
      obtain ⟨rfl, rfl⟩ := H
      go_enter Tryz.func77, Tryz.ntmps77
      go_wp2_with (first | (refine gA (some 13) Tryz.func75 #[.int .i64 a0, .int .i64 a1] ?_; (with_reducible refine (impl_Rectangle.calls k a0 a1 t711 true _ A4.out).mono ?_); rintro e w9 ⟨v712, rfl, ho0, hb⟩; refine ⟨_, rfl, ?_⟩; have n0_ := Aside0.mk (Kd.R_lower ho0 (below_size (uB HB))); have n1_ := Aside0.mk (below_step (uB HB) hb); clear HB; have HO713 := n0_; have HB := n1_; clear n0_ n1_; (try clear hb ho0)) | (refine bE (N := 8) (cs := #[.slice none 0 0]) (t := 26) ?_; intro gb715 hg w10 hbox hb; have n0_ := Aside0.mk (Kd.R_below (uR HO713) hb); have n1_ := Aside0.mk (below_step (uB HB) hb); have n2_ := Aside0.mk (hbox); have n3_ := Aside0.mk ((by rw [hg]; exact (below_size (uB HB)) : w.heap.size ≤ gb715)); have n4_ := Aside0.mk ((by rw [hg]; exact (below_size (uB HB)) : w.heap.size ≤ gb715)); clear HO713; clear HB; have HO713 := n0_; have HB := n1_; have BK715 := n2_; have GW715 := n3_; have GE715 := n4_; clear n0_ n1_ n2_ n3_ n4_; clear hb hbox hg; obtain ⟨Ao11, co11, eo11⟩ := Kd.R_slice HO713.out; subst eo11; have hcz12_0 := bC BK715; have hfz12_0 := blk_frozen BK715.out 0) | (go_at_call 232; (with_reducible refine (impl_isBound.calls a2 true _ A6.out).mono ?_); rintro e w' ⟨rfl, ⟨nd, rfl⟩⟩) | (refine gA (some 25) Tryz.func233 #[.agg #[.slice Ao11 t711.length co11], .int .i64 a2] ?_; (with_reducible refine (impl_Poset_chains.calls k _ _ t711 a2 t717 _ ?side1 ?side2 A8.out).mono ?_); (case side1 => refine (Kd.R_reads' (e := 3) (base := w.heap.size) (ok := fun k_ => True) (n := t711.length) (c := co11) ?_).2.2; exact (rF HO713 BK715 (.slice Ao11 t711.length co11))); (case side2 => exact (Kd.R_reads' HO713.out).2.1); rintro e w13 ⟨v718, rfl, ho0, hb⟩; refine ⟨_, rfl, ?_⟩; have n0_ := Aside0.mk (Kd.R_elder' (rF HO713 BK715 (.slice Ao11 t711.length co11)) (Kd.R_base ho0) hb); have n1_ := Aside0.mk (Kd.R_lower (Kd.R_new' ho0 (Kd.R_lt (rF HO713 BK715 (.slice Ao11 t711.length co11)))) (below_size (vB HB))); have n2_ := Aside0.mk (blk_below (g := gb715) (o := .cells #[.slice Ao11 t711.length co11] 26 (0, 0)) bP hb); have n3_ := Aside0.mk (below_step (vB HB) hb); clear HO713; clear BK715; clear HB; have HO713 := n0_; have HO719 := n1_; have BK715 := n2_; have HB := n3_; clear n0_ n1_ n2_ n3_; (try clear hb ho0)))
      go_ret2
      exact ⟨_, by first | rfl | (simp [errW_none, errW_some] <;> rfl) | (simp [*, errW_none, errW_some] <;> rfl), Kd.R_mono (uR HO719) (fun _ hk => trivial), (vB HB)⟩
    · replace c7 := Bool.eq_false_iff.mpr c7
      subst c7
      rw [if_neg (show ¬ (false = true) by decide)] at H
      simp only [Option.some.injEq, Prod.mk.injEq] at H
      obtain ⟨rfl, rfl⟩ := H
      go_enter Tryz.func77, Tryz.ntmps77
      go_wp2_with (first | (refine gA (some 13) Tryz.func75 #[.int .i64 a0, .int .i64 a1] ?_; (with_reducible refine (impl_Rectangle.calls k a0 a1 t711 true _ A4.out).mono ?_); rintro e w14 ⟨v712, rfl, ho0, hb⟩; refine ⟨_, rfl, ?_⟩; have n0_ := Aside0.mk (Kd.R_lower ho0 (below_size (uB HB))); have n1_ := Aside0.mk (below_step (uB HB) hb); clear HB; have HO713 := n0_; have HB := n1_; clear n0_ n1_; (try clear hb ho0)) | (refine bE (N := 8) (cs := #[.slice none 0 0]) (t := 26) ?_; intro gb715 hg w15 hbox hb; have n0_ := Aside0.mk (Kd.R_below (uR HO713) hb); have n1_ := Aside0.mk (below_step (uB HB) hb); have n2_ := Aside0.mk (hbox); have n3_ := Aside0.mk ((by rw [hg]; exact (below_size (uB HB)) : w.heap.size ≤ gb715)); have n4_ := Aside0.mk ((by rw [hg]; exact (below_size (uB HB)) : w.heap.size ≤ gb715)); clear HO713; clear HB; have HO713 := n0_; have HB := n1_; have BK715 := n2_; have GW715 := n3_; have GE715 := n4_; clear n0_ n1_ n2_ n3_ n4_; clear hb hbox hg; obtain ⟨Ao16, co16, eo16⟩ := Kd.R_slice HO713.out; subst eo16; have hcz17_0 := bC BK715; have hfz17_0 := blk_frozen BK715.out 0) | (go_at_call 232; (with_reducible refine (impl_isBound.calls a2 false _ A6.out).mono ?_); rintro e w' ⟨rfl, ⟨nd, rfl⟩⟩))
      go_ret2
      exact ⟨_, by first | rfl | (simp [errW_none, errW_some] <;> rfl) | (simp [*, errW_none, errW_some] <;> rfl), by first | exact Kd.R_nil _ _ _ _ _ | exact Kd.N_nil _ _ _ _ _ | exact Kd.V_nil _ _ _ _ _ | exact Kd.Q_nil _ _ _ _ _ | exact Kd.S_nil _ _ _ _ _, (vB HB)⟩
  · replace c5 := Bool.eq_false_iff.mpr c5
    subst c5
    rw [if_neg (show ¬ (false = true) by decide)] at H
    simp only [Option.some.injEq, Prod.mk.injEq] at H
    obtain ⟨rfl, rfl⟩ := H
    go_enter Tryz.func77, Tryz.ntmps77
    go_wp2_with (first | (refine gA (some 13) Tryz.func75 #[.int .i64 a0, .int .i64 a1] ?_; (with_reducible refine (impl_Rectangle.calls k a0 a1 t711 false _ A4.out).mono ?_); rintro e w18 ⟨v712, rfl, ho0, hb⟩; refine ⟨_, rfl, ?_⟩; have n0_ := Aside0.mk (Kd.R_lower ho0 (below_size (uB HB))); have n1_ := Aside0.mk (below_step (uB HB) hb); clear HB; have HO713 := n0_; have HB := n1_; clear n0_ n1_; (try clear hb ho0)) | (refine bE (N := 8) (cs := #[.slice none 0 0]) (t := 26) ?_; intro gb715 hg w19 hbox hb; have n0_ := Aside0.mk (Kd.R_below (uR HO713) hb); have n1_ := Aside0.mk (below_step (uB HB) hb); have n2_ := Aside0.mk (hbox); have n3_ := Aside0.mk ((by rw [hg]; exact (below_size (uB HB)) : w.heap.size ≤ gb715)); have n4_ := Aside0.mk ((by rw [hg]; exact (below_size (uB HB)) : w.heap.size ≤ gb715)); clear HO713; clear HB; have HO713 := n0_; have HB := n1_; have BK715 := n2_; have GW715 := n3_; have GE715 := n4_; clear n0_ n1_ n2_ n3_ n4_; clear hb hbox hg; obtain ⟨Ao20, co20, eo20⟩ := Kd.R_slice HO713.out; subst eo20; have hcz21_0 := bC BK715; have hfz21_0 := blk_frozen BK715.out 0))
    go_ret2
    exact ⟨_, by first | rfl | (simp [errW_none, errW_some] <;> rfl) | (simp [*, errW_none, errW_some] <;> rfl), by first | exact Kd.R_nil _ _ _ _ _ | exact Kd.N_nil _ _ _ _ _ | exact Kd.V_nil _ _ _ _ _ | exact Kd.Q_nil _ _ _ _ _ | exact Kd.S_nil _ _ _ _ _, (vB HB)⟩
end Go.Proofs.YtkgngggppcmpfaaGreat.L
end
