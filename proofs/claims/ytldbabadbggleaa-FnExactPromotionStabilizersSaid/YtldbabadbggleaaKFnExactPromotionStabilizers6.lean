/- Laws about the given program: the law FnExactPromotionStabilizers answers true for every input that its row lets in; no condition is added to the given statement. Contracts of the Go functions that it reaches, and the plain proof over lists. -/
import Derived.Test.YtldbabadbggleaaWFnExactPromotionStabilizers0
import Derived.Test.YtldbabadbggleaaKFnExactPromotionStabilizers0
import Derived.Test.YtldbabadbggleaaKFnExactPromotionStabilizers1
import Derived.Test.YtldbabadbggleaaKFnExactPromotionStabilizers2
import Derived.Test.YtldbabadbggleaaKFnExactPromotionStabilizers3
import Derived.Test.YtldbabadbggleaaKFnExactPromotionStabilizers4
import Derived.Test.YtldbabadbggleaaKFnExactPromotionStabilizers5
section
namespace Go.Proofs.Ytldbabadbggleaa.L
open Go.RowKit Go.Proofs.YtldbabadbggleaaW.PrintWords Go.Proofs.YtldbabadbggleaaW.PrintLast Go.Proofs.YtldbabadbggleaaW.PrintMore
attribute [local go_sem] max2_int min2_int max_two min_two max_three min_three max_four min_four
set_option linter.unusedVariables false
set_option linter.unusedSimpArgs false
def impl_few.loop (put : Int → List Int → List (List Int) → Option (List (List Int))) (s : Int) (w : List Int) : List Int → List (List Int) → Option (List (List Int))
  | [], O => some O
  | e :: js, O => if 0 ≤ e ∧ w.length < 17592186044416 then (put (Go.bits .or .i64 s (shl .i64 1 e)) (w ++ [e]) O).bind fun O' => impl_few.loop put s w js O' else none
def impl_few.put (k : Nat) (l0 : List Int) (t : Int) : Nat → Int → List Int → List (List Int) → Option (List (List Int))
  | 0, s, w, O => if s = t then (if w.length < 17592186044416 ∧ O.length < 5864062014805 then some (O ++ [w]) else none) else none
  | d + 1, s, w, O => if s = t then (if w.length < 17592186044416 ∧ O.length < 5864062014805 then some (O ++ [w]) else none) else (impl_Poset_next.f k l0 s).bind fun js => if js.length ≤ 9223372036854775806 then impl_few.loop (impl_few.put k l0 t d) s w js O else none
def impl_few.f (k : Nat) (l0 : List Int) : Option (List (List Int) × Bool) := (impl_IsPoset.f k l0).bind fun b => if b = true then (impl_Poset_ways.f k l0).bind fun ws => if 0 < ws.length then (if rd ws 0 > 500 then some ([], false) else (impl_Poset_all.f l0).bind fun t => (impl_few.put k l0 t l0.length 0 [] []).bind fun O => some (O, true)) else none else some ([], false)
theorem impl_few.loop_mono {p q : Int → List Int → List (List Int) → Option (List (List Int))} (h : ∀ s w O, LeO (p s w O) (q s w O)) (s : Int) (w : List Int) : ∀ js O, LeO (impl_few.loop p s w js O) (impl_few.loop q s w js O)
  | [], _ => LeO.refl _
  | e :: js, O => by
    rw [impl_few.loop, impl_few.loop]
    exact LeO.ite (LeO.bind (h _ _ _) fun t => impl_few.loop_mono h s w js _) (LeO.refl _)
theorem impl_few.put_mono (k : Nat) (l0 : List Int) (t : Int) : ∀ d s w O, LeO (impl_few.put k l0 t d s w O) (impl_few.put (k + 1) l0 t d s w O)
  | 0, _, _, _ => LeO.refl _
  | d + 1, s, w, O => by
    rw [impl_few.put, impl_few.put]
    exact LeO.ite (LeO.refl _) (LeO.bind (impl_Poset_next.mono _ _ _) fun js => LeO.ite (impl_few.loop_mono (fun s w O => impl_few.put_mono k l0 t d s w O) _ _ _ _) (LeO.refl _))
theorem impl_few.mono : ∀ a0 k, LeO (impl_few.f k a0) (impl_few.f (k + 1) a0) := by
  intro l0 k
  unfold impl_few.f
  exact LeO.bind (impl_IsPoset.mono _ _) fun b => LeO.ite (LeO.bind (impl_Poset_ways.mono _ _) fun ws => LeO.ite (LeO.ite (LeO.refl _) (LeO.bind (LeO.refl _) fun t => LeO.bind (impl_few.put_mono _ _ _ _ _ _ _) fun O => LeO.refl _)) (LeO.refl _)) (LeO.refl _)
def impl_few.okX (Bp Bo Bw Bq : Nat) (k : Nat) : Prop := k ≠ Bp ∧ k ≠ Bo ∧ k ≠ Bw ∧ k ≠ Bq
structure impl_few.Inv (w0 W : World) (A0 : Option Addr) (n c0 : Nat) (Bp Bo Bw Bq : Nat) (K : Nat → Prop) (W1 : World) (wl : List Int) (vW : Value) (O : List (List Int)) (vO : Value) : Prop where
  below : Below w0.heap.size w0 W
  bp : W.heap[Bp]? = some (.cells #[.slice A0 n c0] 29 (0, 0))
  bo : W.heap[Bo]? = some (.cells #[vO] 26 (0, 0))
  bw : W.heap[Bw]? = some (.cells #[vW] 22 (0, 0))
  bq : W.heap[Bq]? = some (.cells #[.func (.func 72) #[] #[.pointer (some ⟨Bp, 0, none⟩), .pointer (some ⟨Bo, 0, none⟩), .pointer (some ⟨Bw, 0, none⟩), .pointer (some ⟨Bq, 0, none⟩)]] 61 (0, 0))
  so : Kd.S (Kd.slice 3 (Kd.int .i64)) 22 W w0.heap.size (fun k => impl_few.okX Bp Bo Bw Bq k ∧ some k ≠ vW.ownBlock) vO O
  rw : Kd.R (Kd.int .i64) 3 W w0.heap.size (fun k => impl_few.okX Bp Bo Bw Bq k ∧ some k ≠ vO.ownBlock) vW wl
  go : w0.heap.size ≤ Bo
  gw : w0.heap.size ≤ Bw
  ks : W1.heap.size ≤ W.heap.size
  kp : ∀ b, K b → W.heap[b]? = W1.heap[b]? ∧ b < W1.heap.size ∧ b ≠ Bo ∧ b ≠ Bw ∧ some b ≠ vO.ownBlock ∧ some b ≠ vW.ownBlock
theorem impl_few.cell_same {w w' : World} {a : Addr} (h : w.heap[a.block]? = w'.heap[a.block]?) : w.cell? a = w'.cell? a := by unfold World.cell?; rw [h]
theorem impl_few.ssz (w : World) (a : Addr) (v : Value) : (w.setCell a v).heap.size = w.heap.size := by simp [World.setCell]
open Go.Proofs.Ytldbabadbggleaa.X in
theorem impl_few.Inv.step {w0 W W2 W1 : World} {A0 : Option Addr} {n c0 : Nat} {Bp Bo Bw Bq : Nat} {K : Nat → Prop} {wl : List Int} {vW : Value} {O : List (List Int)} {vO : Value} (h : impl_few.Inv w0 W A0 n c0 Bp Bo Bw Bq K W1 wl vW O vO) (hb : Below W.heap.size W W2) : impl_few.Inv w0 W2 A0 n c0 Bp Bo Bw Bq K W1 wl vW O vO :=
  ⟨below_to h.below hb, blk_below h.bp hb, blk_below h.bo hb, blk_below h.bw hb, blk_below h.bq hb, Kd.S_below h.so hb, Kd.R_below h.rw hb, h.go, h.gw, Nat.le_trans h.ks hb.size, fun b hk => by
    obtain ⟨h1, h2, h3⟩ := h.kp b hk
    exact ⟨(hb.block b (Nat.lt_of_lt_of_le h2 h.ks)).trans h1, h2, h3⟩⟩
theorem impl_few.Inv.rebase {w0 W W1 : World} {A0 : Option Addr} {n c0 : Nat} {Bp Bo Bw Bq : Nat} {K : Nat → Prop} {wl : List Int} {vW : Value} {O : List (List Int)} {vO : Value} (h : impl_few.Inv w0 W A0 n c0 Bp Bo Bw Bq K W1 wl vW O vO) : impl_few.Inv w0 W A0 n c0 Bp Bo Bw Bq K W wl vW O vO :=
  have hk2 : ∀ b, K b → W.heap[b]? = W.heap[b]? ∧ b < W.heap.size ∧ b ≠ Bo ∧ b ≠ Bw ∧ some b ≠ vO.ownBlock ∧ some b ≠ vW.ownBlock := fun b hk => ⟨rfl, Nat.lt_of_lt_of_le (h.kp b hk).2.1 h.ks, (h.kp b hk).2.2⟩
  { h with ks := Nat.le_refl _, kp := hk2 }
theorem impl_few.Inv.back {w0 W W1 W2 : World} {A0 : Option Addr} {n c0 : Nat} {Bp Bo Bw Bq : Nat} {K K2 : Nat → Prop} {wl wl2 : List Int} {vW vW2 : Value} {O O2 : List (List Int)} {vO vO2 : Value} (h : impl_few.Inv w0 W A0 n c0 Bp Bo Bw Bq K2 W2 wl vW O vO) (h2 : impl_few.Inv w0 W2 A0 n c0 Bp Bo Bw Bq K W1 wl2 vW2 O2 vO2) (hK : ∀ b, K b → K2 b) : impl_few.Inv w0 W A0 n c0 Bp Bo Bw Bq K W1 wl vW O vO :=
  have hk2 : ∀ b, K b → W.heap[b]? = W1.heap[b]? ∧ b < W1.heap.size ∧ b ≠ Bo ∧ b ≠ Bw ∧ some b ≠ vO.ownBlock ∧ some b ≠ vW.ownBlock := fun b hk => ⟨(h.kp b (hK b hk)).1.trans (h2.kp b hk).1, (h2.kp b hk).2.1, (h.kp b (hK b hk)).2.2⟩
  { h with ks := Nat.le_trans h2.ks h.ks, kp := hk2 }
open Go.Proofs.Ytldbabadbggleaa.X in
theorem impl_few.Inv.push {w0 w1 w2 w3 W1 : World} {A0 : Option Addr} {n c0 : Nat} {Bp Bo Bw Bq : Nat} {K : Nat → Prop} {wl : List Int} {vW : Value} {O : List (List Int)} {Ao A3 : Option Addr} {co c3 : Nat} (h : impl_few.Inv w0 w1 A0 n c0 Bp Bo Bw Bq K W1 wl vW O (.slice Ao O.length co)) (hB : Below w1.heap.size w1 w2)
    (ho : Kd.S (Kd.slice 3 (Kd.int .i64)) 22 w3 w0.heap.size (fun k => impl_few.okX Bp Bo Bw Bq k ∧ some k ≠ vW.ownBlock) (.slice A3 (O ++ [wl]).length c3) (O ++ [wl])) (hb : Below w0.heap.size w0 w3) (hg : w2.grownBy w3 (Value.slice Ao O.length co).ownBlock)
    (hat : (Value.slice A3 (O ++ [wl]).length c3).ownBlock = (Value.slice Ao O.length co).ownBlock ∨ ∃ b, (Value.slice A3 (O ++ [wl]).length c3).ownBlock = some b ∧ w2.heap.size ≤ b) :
    impl_few.Inv w0 (w3.setCell ⟨Bo, 0, none⟩ (.slice A3 (O.length + 1) c3)) A0 n c0 Bp Bo Bw Bq K W1 wl vW (O ++ [wl]) (.slice A3 (O.length + 1) c3) := by
  have e : (O ++ [wl]).length = O.length + 1 := by simp
  rw [e] at ho hat
  have hi := h.step hB
  refine ⟨below_set hb h.go, ?_, ?_, ?_, ?_, ?_, ?_, h.go, h.gw, ?_, fun b hk => ?_⟩
  · exact blk_far (blk_grown hi.bp hg (Kd.S_away h.so fun _ hk => hk.1.1)) (show Bp ≠ Bo from blk_ne h.bp h.bo (by decide)) _
  · exact blk_put (blk_grown hi.bo hg (Kd.S_away h.so fun _ hk => hk.1.2.1)) 0 _ rfl
  · exact blk_far (blk_grown hi.bw hg (Kd.S_away h.so fun _ hk => hk.1.2.2.1)) (show Bw ≠ Bo from blk_ne h.bw h.bo (by decide)) _
  · exact blk_far (blk_grown hi.bq hg (Kd.S_away h.so fun _ hk => hk.1.2.2.2)) (show Bq ≠ Bo from blk_ne h.bq h.bo (by decide)) _
  · exact Kd.S_far ho (fun k hk => hk.1.2.1) _
  · exact Kd.R_far (Kd.R_after (ok := impl_few.okX Bp Bo Bw Bq) hi.rw hg hat) (fun k hk => hk.1.2.1) _
  · rw [impl_few.ssz]; exact Nat.le_trans hi.ks hg.size
  · obtain ⟨h1, h2, h3, h4, h5, h6⟩ := hi.kp b hk
    have hlt : b < w2.heap.size := Nat.lt_of_lt_of_le h2 hi.ks
    refine ⟨(Below.heap_setCell w3 _ _ b h3).trans ((hg.block b hlt h5).trans h1), h2, h3, h4, ?_, h6⟩
    intro q
    rcases hat with q2 | ⟨b2, q2, q3⟩
    · exact h5 (q.trans q2)
    · have := Option.some.inj (q.trans q2); omega
open Go.Proofs.Ytldbabadbggleaa.X in
theorem impl_few.Inv.app {w0 w1 w2 w3 W1 : World} {A0 : Option Addr} {n c0 : Nat} {Bp Bo Bw Bq : Nat} {K : Nat → Prop} {wl : List Int} {vW v3 : Value} {O : List (List Int)} {vO : Value} {x : Int} (h : impl_few.Inv w0 w1 A0 n c0 Bp Bo Bw Bq K W1 wl vW O vO) (hB : Below w1.heap.size w1 w2)
    (ho : Kd.R (Kd.int .i64) 3 w3 w0.heap.size (fun k => impl_few.okX Bp Bo Bw Bq k ∧ some k ≠ vO.ownBlock) v3 (wl ++ [x])) (hb : Below w0.heap.size w0 w3) (hg : w2.grownBy w3 vW.ownBlock)
    (hat : v3.ownBlock = vW.ownBlock ∨ ∃ b, v3.ownBlock = some b ∧ w2.heap.size ≤ b) :
    impl_few.Inv w0 (w3.setCell ⟨Bw, 0, none⟩ v3) A0 n c0 Bp Bo Bw Bq K W1 (wl ++ [x]) v3 O vO := by
  have hi := h.step hB
  have aw : ∀ {B : Nat}, (∀ k, impl_few.okX Bp Bo Bw Bq k → k ≠ B) → some B ≠ vW.ownBlock := fun hk e => hk _ (h.rw.1 _ e.symm).1 rfl
  refine ⟨below_set hb h.gw, ?_, ?_, ?_, ?_, ?_, ?_, h.go, h.gw, ?_, fun b hk => ?_⟩
  · exact blk_far (blk_grown hi.bp hg (aw fun _ hk => hk.1)) (show Bp ≠ Bw from blk_ne h.bp h.bw (by decide)) _
  · exact blk_far (blk_grown hi.bo hg (aw fun _ hk => hk.2.1)) (show Bo ≠ Bw from blk_ne h.bo h.bw (by decide)) _
  · exact blk_put (blk_grown hi.bw hg (aw fun _ hk => hk.2.2.1)) 0 _ rfl
  · exact blk_far (blk_grown hi.bq hg (aw fun _ hk => hk.2.2.2)) (show Bq ≠ Bw from blk_ne h.bq h.bw (by decide)) _
  · exact Kd.S_far (Kd.S_after (ok := impl_few.okX Bp Bo Bw Bq) hi.so hg hat) (fun k hk => hk.1.2.2.1) _
  · exact Kd.R_far ho (fun k hk => hk.1.2.2.1) _
  · rw [impl_few.ssz]; exact Nat.le_trans hi.ks hg.size
  · obtain ⟨h1, h2, h3, h4, h5, h6⟩ := hi.kp b hk
    have hlt : b < w2.heap.size := Nat.lt_of_lt_of_le h2 hi.ks
    refine ⟨(Below.heap_setCell w3 _ _ b h4).trans ((hg.block b hlt h6).trans h1), h2, h3, h4, h5, ?_⟩
    intro q
    rcases hat with q2 | ⟨b2, q2, q3⟩
    · exact h6 (q.trans q2)
    · have := Option.some.inj (q.trans q2); omega
open Go.Proofs.Ytldbabadbggleaa.X in
theorem impl_few.Inv.cut {w0 W W1 : World} {A0 : Option Addr} {n c0 : Nat} {Bp Bo Bw Bq : Nat} {K : Nat → Prop} {wl : List Int} {x : Int} {A : Option Addr} {c : Nat} {O : List (List Int)} {vO : Value} (h : impl_few.Inv w0 W A0 n c0 Bp Bo Bw Bq K W1 (wl ++ [x]) (.slice A (wl ++ [x]).length c) O vO) :
    impl_few.Inv w0 (W.setCell ⟨Bw, 0, none⟩ (.slice A wl.length c)) A0 n c0 Bp Bo Bw Bq K W1 wl (.slice A wl.length c) O vO := by
  have e : (wl ++ [x]).take wl.length = wl := by simp
  have hr := Kd.R_take (m := wl.length) h.rw (by simp)
  rw [e] at hr
  have eb : (Value.slice A wl.length c).ownBlock = (Value.slice A (wl ++ [x]).length c).ownBlock := by cases A <;> rfl
  refine ⟨below_set h.below h.gw, ?_, ?_, ?_, ?_, ?_, ?_, h.go, h.gw, ?_, fun b hk => ?_⟩
  · exact blk_far h.bp (show Bp ≠ Bw from blk_ne h.bp h.bw (by decide)) _
  · exact blk_far h.bo (show Bo ≠ Bw from blk_ne h.bo h.bw (by decide)) _
  · exact blk_put h.bw 0 _ rfl
  · exact blk_far h.bq (show Bq ≠ Bw from blk_ne h.bq h.bw (by decide)) _
  · rw [eb]; exact Kd.S_far h.so (fun k hk => hk.1.2.2.1) _
  · exact Kd.R_far hr (fun k hk => hk.1.2.2.1) _
  · rw [impl_few.ssz]; exact h.ks
  · obtain ⟨h1, h2, h3, h4, h5, h6⟩ := h.kp b hk
    exact ⟨(Below.heap_setCell W _ _ b h4).trans h1, h2, h3, h4, h5, by rw [eb]; exact h6⟩
open Go.Proofs.Ytldbabadbggleaa.X in
set_option maxHeartbeats 1600000 in
set_option maxRecDepth 100000 in
theorem impl_few.lit0 (w0 : World) (A0 : Option Addr) (c0 : Nat) (l0 : List Int) (t : Int) (Bp Bo Bw Bq : Nat) (K : Nat → Prop) (W1 : World) (vW : Value) (hr0 : Kd.C (Kd.int .i64) w0 A0 l0.length l0) (hc0 : l0.length ≤ c0) (ht : impl_Poset_all.f l0 = some t) (wl : List Int) (O : List (List Int)) (vO : Value) (W : World) (hI : impl_few.Inv w0 W A0 l0.length c0 Bp Bo Bw Bq K W1 wl vW O vO) (hl : wl.length < 17592186044416 ∧ O.length < 5864062014805) :
    Calls Try.prog 72 #[.int .i64 t, .pointer (some ⟨Bp, 0, none⟩), .pointer (some ⟨Bo, 0, none⟩), .pointer (some ⟨Bw, 0, none⟩), .pointer (some ⟨Bq, 0, none⟩)] W fun e W' => e = .returned (.tuple #[]) ∧ ∃ vO', impl_few.Inv w0 W' A0 l0.length c0 Bp Bo Bw Bq K W1 wl vW (O ++ [wl]) vO' := by
  have HR := Aside0.mk hr0
  have HC := Aside0.mk hc0
  have HT := Aside0.mk ht
  have HL := Aside0.mk hl
  have HI := Aside0.mk hI
  have zp := blk_cell hI.bp 0
  clear hr0 hc0 hl hI ht
  have hu := Try.underlying29
  go_enter Try.func72, Try.ntmps72
  go_wp2_with fail
  refine (impl_Poset_all.calls _ _ l0 t _ (Kd.C_below HR.out HI.out.below) HC.out HT.out).mono ?_
  rintro e w1 ⟨rfl, hb⟩
  have HI1 := Aside0.mk (HI.out.step hb)
  clear hb HI zp
  obtain ⟨Af, cf, eF⟩ := Kd.R_slice HI1.out.rw
  subst eF
  obtain ⟨Ao, co, eO⟩ := Kd.S_slice HI1.out.so
  subst eO
  have zo := blk_cell HI1.out.bo 0
  have zf := blk_cell HI1.out.bw 0
  go_wp2_with fail
  have HCL := Aside0.mk (show slices_Clone_int_int.f wl = some wl by unfold slices_Clone_int_int.f; rw [if_pos HL.out.1])
  have FR := Aside0.mk (show ∀ k_, w1.heap.size ≤ k_ → (impl_few.okX Bp Bo Bw Bq k_ ∧ some k_ ≠ (Value.slice Af wl.length cf).ownBlock) ∧ some k_ ≠ (Value.slice Ao O.length co).ownBlock from fun k_ hk => ⟨⟨⟨by have := blk_lt HI1.out.bp; omega, by have := blk_lt HI1.out.bo; omega, by have := blk_lt HI1.out.bw; omega, by have := blk_lt HI1.out.bq; omega⟩, fun e => by have := Kd.R_lt HI1.out.rw k_ e.symm; omega⟩, fun e => by have := Kd.S_lt HI1.out.so k_ e.symm; omega⟩)
  have NBF := Aside0.mk (show Bw ≠ Bo from blk_ne HI1.out.bw HI1.out.bo (by decide))
  go_region_law
    (first
      | (rw [if_pos (by rfl)]; go_simp; go_at_call 56; refine (slices_Clone_int_int.calls _ _ wl wl _ (Kd.C_below (Kd.R_reads' HI1.out.rw).2.2 (below_drew (Below.refl _ _))) (Kd.R_reads' HI1.out.rw).2.1 HCL.out).mono ?_; rintro e w2 ⟨vC, rfl, hC, hb⟩; obtain ⟨Ac, cc, eC⟩ := Kd.R_slice hC; subst eC; have zo2 := pw_cell_below hb zo; have zf2 := pw_cell_below hb zf; have zo2a := pw_cell_below (below_alloc (Below.refl w2.heap.size w2) (.cells #[.slice Ac wl.length cc] 22)) zo2; have zf2a := pw_cell_below (below_alloc (Below.refl w2.heap.size w2) (.cells #[.slice Ac wl.length cc] 22)) zf2; have B12 := Aside0.mk (show Below w1.heap.size w1 w2 from below_to (below_drew (Below.refl _ _)) hb); have HCC := Aside0.mk (show Kd.R (Kd.int .i64) 3 w2 w1.heap.size (fun _ => True) (.slice Ac wl.length cc) wl from hC); dsimp only)
      | (refine Kd.S_append_step (Kd.slice 3 (Kd.int .i64)) (w0 := w0) w0.heap.size (by rfl) (.tmp 12) (.tmp 15) 26 22 (.slice none 0 0) 24 (by rfl) Try.underlying26 info22 (by rfl) (by decide) (by omega) (.slice Ao O.length co) O wl _ (fun k_ => impl_few.okX Bp Bo Bw Bq k_ ∧ some k_ ≠ (Value.slice Af wl.length cf).ownBlock) (fun k_ => some k_ = (Value.slice Ac wl.length cc).ownBlock) (by rfl) (by rfl) (Kd.M_row (Kd.R_tight rfl (Kd.R_lower HCC.out HI1.out.below.size))) (fun k_ e => FR.out k_ (Kd.R_base HCC.out k_ e.symm)) (fun k_ hk => (FR.out k_ (Nat.le_trans B12.out.size hk)).1) (Kd.S_mono (Kd.S_below (Kd.S_bound HI1.out.so) B12.out) (fun k_ hk => ⟨hk.1, fun e => by have h1 := Kd.R_base HCC.out k_ e.symm; have h2 := hk.2.2.1; omega⟩)) (below_to HI1.out.below B12.out) (Nat.le_trans HI1.out.below.size B12.out.size) (by have := HL.out.2; omega) ?_; intro v3 w3 ho3 hb3 hg3 hat3; obtain ⟨A3, c3, e3⟩ := Kd.S_slice ho3; subst e3; have BO3 := Aside0.mk (blk_grown (blk_below HI1.out.bo B12.out) hg3 (Kd.S_away HI1.out.so (fun _ hk => hk.1.2.1))); have BF3 := Aside0.mk (blk_grown (blk_below HI1.out.bw B12.out) hg3 (Kd.S_away HI1.out.so (fun _ hk => hk.1.2.2.1))); have zo3 := blk_cell BO3.out 0; have zf3 := blk_cell BF3.out 0; have fz3 := blk_frozen BO3.out 0; have zf4 := blk_cell (blk_far BF3.out (p := ⟨Bo, 0, none⟩) NBF.out (.slice A3 (O ++ [wl]).length c3)) 0))
  all_goals
    go_wp2
    ((try simp only [Exit.inBlock, Exit.then]); refine bodyPost_ret (results_none rfl _ _ _) rfl ?_)
    exact ⟨rfl, _, HI1.out.push B12.out ho3 hb3 hg3 hat3⟩
open Go.Proofs.Ytldbabadbggleaa.X in
set_option maxHeartbeats 3200000 in
set_option maxRecDepth 100000 in
theorem impl_few.lit (k : Nat) (w0 : World) (A0 : Option Addr) (c0 : Nat) (l0 : List Int) (t : Int) (Bp Bo Bw Bq : Nat) (hr0 : Kd.C (Kd.int .i64) w0 A0 l0.length l0) (hc0 : l0.length ≤ c0) (ht : impl_Poset_all.f l0 = some t) : ∀ (d : Nat) (s : Int) (wl : List Int) (O O' : List (List Int)) (K : Nat → Prop) (W1 : World) (vW vO : Value) (W : World), impl_few.Inv w0 W A0 l0.length c0 Bp Bo Bw Bq K W1 wl vW O vO → impl_few.put k l0 t d s wl O = some O' →
    Calls Try.prog 72 #[.int .i64 s, .pointer (some ⟨Bp, 0, none⟩), .pointer (some ⟨Bo, 0, none⟩), .pointer (some ⟨Bw, 0, none⟩), .pointer (some ⟨Bq, 0, none⟩)] W fun e W' => e = .returned (.tuple #[]) ∧ ∃ vW' vO', impl_few.Inv w0 W' A0 l0.length c0 Bp Bo Bw Bq K W1 wl vW' O' vO' := by
  intro d
  induction d with
  | zero =>
    intro s wl O O' K W1 vW vO W hI h
    rw [impl_few.put] at h
    split at h
    · rename_i hi
      split at h
      · rename_i hl
        injection h with h
        subst h hi
        refine (impl_few.lit0 w0 A0 c0 l0 s Bp Bo Bw Bq K W1 vW hr0 hc0 ht wl O vO W hI hl).mono ?_
        rintro e W' ⟨he, vO', hI'⟩
        exact ⟨he, vW, vO', hI'⟩
      · cases h
    · cases h
  | succ d ih =>
    intro s wl O O' K W1 vW vO W hI h
    rw [impl_few.put] at h
    by_cases hi : s = t
    · rw [if_pos hi] at h
      split at h
      · rename_i hl
        injection h with h
        subst h hi
        refine (impl_few.lit0 w0 A0 c0 l0 s Bp Bo Bw Bq K W1 vW hr0 hc0 ht wl O vO W hI hl).mono ?_
        rintro e W' ⟨he, vO', hI'⟩
        exact ⟨he, vW, vO', hI'⟩
      · cases h
    · rw [if_neg hi] at h
      have hn_ := Option.bind_eq_some_iff.mp h
      clear h
      obtain ⟨js, hjs, h⟩ := hn_
      split at h
      · rename_i hjl
        have IH := Aside0.mk ih
        have HR := Aside0.mk hr0
        have HC := Aside0.mk hc0
        have HT := Aside0.mk ht
        have HJ := Aside0.mk hjs
        have HJL := Aside0.mk hjl
        have HF := Aside0.mk h
        have HI := Aside0.mk hI
        have zp := blk_cell hI.bp 0
        clear hr0 hc0 hI hjs hjl h ih ht
        have hu := Try.underlying29
        have hib : (s == t) = false := beq_eq_false_iff_ne.mpr hi
        go_enter Try.func72, Try.ntmps72
        go_wp2_with fail
        refine (impl_Poset_all.calls _ _ l0 t _ (Kd.C_below HR.out HI.out.below) HC.out HT.out).mono ?_
        rintro e w1 ⟨rfl, hb⟩
        have HI1 := Aside0.mk (HI.out.step hb)
        clear hb HI zp
        have zp := blk_cell HI1.out.bp 0
        go_wp2_with fail
        refine (impl_Poset_next.calls k _ _ l0 s js _ (Kd.C_below HR.out HI1.out.below) HC.out HJ.out).mono ?_
        rintro e w2 ⟨vJ, rfl, hR, hb⟩
        have HRJ := Aside0.mk hR
        obtain ⟨AJ, cJ, rfl, hlJ, hCJ⟩ := Kd.R_reads hR
        have HI2 := Aside0.mk (HI1.out.step hb)
        have CJ := Aside0.mk hCJ
        have SB := Aside0.mk hb.size
        clear hb hR hCJ hlJ zp
        have FJ := Aside0.mk (show ∀ b, (Value.slice AJ js.length cJ).ownBlock = some b → b < w2.heap.size ∧ b ≠ Bo ∧ b ≠ Bw ∧ some b ≠ vO.ownBlock ∧ some b ≠ vW.ownBlock from fun b hb => by
          have h1 := Kd.R_base HRJ.out b hb
          have h2 := Kd.R_lt HRJ.out b hb
          refine ⟨h2, by have := blk_lt HI1.out.bo; omega, by have := blk_lt HI1.out.bw; omega, fun e => ?_, fun e => ?_⟩
          · have := Kd.S_lt HI1.out.so b e.symm; omega
          · have := Kd.R_lt HI1.out.rw b e.symm; omega)
        have hk2 : ∀ b, (K b ∨ (Value.slice AJ js.length cJ).ownBlock = some b) → w2.heap[b]? = w2.heap[b]? ∧ b < w2.heap.size ∧ b ≠ Bo ∧ b ≠ Bw ∧ some b ≠ vO.ownBlock ∧ some b ≠ vW.ownBlock := fun b hb => by
          rcases hb with hb | hb
          · exact ⟨rfl, Nat.lt_of_lt_of_le (HI2.out.kp b hb).2.1 HI2.out.ks, (HI2.out.kp b hb).2.2⟩
          · exact ⟨rfl, FJ.out b hb⟩
        have HI3 := Aside0.mk (show impl_few.Inv w0 w2 A0 l0.length c0 Bp Bo Bw Bq (fun b => K b ∨ (Value.slice AJ js.length cJ).ownBlock = some b) w2 wl vW O vO from { HI2.out with ks := Nat.le_refl _, kp := hk2 })
        clear hk2 FJ SB HI1
        go_wp2_with fail
        have eg := enters_ Try.func72 (by kernel_rfl) rfl
        go_loopw [7, 21] (fun v7 v21 wi => ∃ (q : Nat) (O1 : List (List Int)) (vW1 vO1 : Value), v21 = .int .i64 q ∧ q ≤ js.length ∧ Aside0 (impl_few.loop (impl_few.put k l0 t d) s wl (js.drop q) O1 = some O') ∧ Aside0 (impl_few.Inv w0 wi A0 l0.length c0 Bp Bo Bw Bq (fun b => K b ∨ (Value.slice AJ js.length cJ).ownBlock = some b) w2 wl vW1 O1 vO1)) (fun _ v21 _ => js.length - (intOf v21).toNat)
        case atStart => exact ⟨0, O, vW, vO, rfl, Nat.zero_le _, ⟨by rw [List.drop_zero]; exact HF.out⟩, HI3⟩
        case round =>
          clear HI3 HF
          obtain ⟨q, O1, vW1, vO1, rfl, hq, HA, HI⟩ := hrel
          by_cases hql : q < js.length
          · have hs := HA.out
            rw [List.drop_eq_getElem_cons hql, impl_few.loop] at hs
            split at hs
            · rename_i hj
              obtain ⟨O2, hO2, hs⟩ := Option.bind_eq_some_iff.mp hs
              have HA2 := Aside0.mk hs
              have HP := Aside0.mk hO2
              have HLW := Aside0.mk hj.2
              obtain ⟨ad1, e1, hx0⟩ := Kd.at_int CJ.out (q : Int) (by omega) (by omega)
              rw [Int.toNat_natCast] at hx0
              cases e1
              have hx : wr.cell? (ad1.add q) = some (.int .i64 js[q]) := by
                rw [impl_few.cell_same (w' := w2) (a := ad1.add q) (by
                  have h1 := (HI.out.kp ad1.block (.inr rfl)).1
                  have h2 : (ad1.add q).block = ad1.block := by cases ad1; cases q <;> rfl
                  rw [h2]; exact h1), hx0, show rd js (q : Int) = js[q] by simp [rd, List.getD_eq_getElem?_getD, hql]]
              obtain ⟨j, hje⟩ : ∃ j, j = js[q] := ⟨_, rfl⟩
              rw [← hje] at hx hj HP
              have p4 : 0 ≤ ((q : Nat) : Int) := by omega
              have q4 : ((q : Nat) : Int) < (js.length : Int) := by omega
              have p5 := hj.1
              have hq1 : q + 1 ≤ js.length := hql
              have e3 : wrap64 ((q : Int) + 1) = ((q + 1 : Nat) : Int) := by have := HJL.out; unfold wrap64; omega
              have zf := blk_cell HI.out.bw 0
              have fz := blk_frozen HI.out.bw 0
              have HP := Aside0.mk (show impl_few.put k l0 t d (Go.bits .or .i64 s (IntKind.i64.wrap (2 ^ min j.toNat 64))) (wl ++ [j]) O1 = some O2 by have h := HP.out; rw [show shl .i64 1 j = IntKind.i64.wrap (2 ^ min j.toNat 64) from by first | rfl | (simp [shl]; done) | (simp [shl]; rfl)] at h; exact h)
              clear hje hx0 hs HA hO2 hj
              have FK := Aside0.mk (show ∀ k_, wr.heap.size ≤ k_ → impl_few.okX Bp Bo Bw Bq k_ ∧ some k_ ≠ vO1.ownBlock from fun k_ hk => ⟨⟨by have := blk_lt HI.out.bp; omega, by have := blk_lt HI.out.bo; omega, by have := blk_lt HI.out.bw; omega, by have := blk_lt HI.out.bq; omega⟩, fun e => by have := Kd.S_lt HI.out.so k_ e.symm; omega⟩)
              go_wp2_with (first | ((with_reducible refine gate_dst (N := 27) rfl ?_); refine wpList_plain rfl (fun K' hK' => ?_); unfold Oper.wp; go_simp; refine hK' _ _ ?_; clear hK'; at_builtin; refine Kd.R_append (Kd.int .i64) (w0 := w0) w0.heap.size rfl (.tmp 25) (.tmp 27) 22 3 (.int .i64 0) 8 rfl Try.underlying22 info3 rfl (by decide) (by omega) vW1 wl j [.int .i64 j] (fun k_ => impl_few.okX Bp Bo Bw Bq k_ ∧ some k_ ≠ vO1.ownBlock) (fun _ => False) rfl rfl ?aP (fun _ hk => hk.elim) ?aF ?aO ?aB ?aS ?aL ?_; (case aP => exact rfl); (case aF => exact fun k_ hk => FK.out k_ hk); (case aO => exact HI.out.rw); (case aB => exact HI.out.below); (case aS => exact HI.out.below.size); (case aL => have := HLW.out; omega); intro v28 w6 ho hb hg hat; obtain ⟨A28, c28, e28⟩ := Kd.R_slice ho; subst e28; rw [show (wl ++ [j]).length = wl.length + 1 from by simp] at ho hat; have BW6 := Aside0.mk (blk_grown HI.out.bw hg (fun e => (HI.out.rw.1 Bw e.symm).1.2.2.1 rfl)); have HI6 := Aside0.mk (HI.out.app (Below.refl _ _) ho hb hg hat); have zf6 := blk_cell BW6.out 0; have fz6 := blk_frozen BW6.out 0; have zq6 := blk_cell HI6.out.bq 0; clear ho hb hg hat zf fz HI FK))
              go_region_law (first | (rw [if_pos (by rfl)]; go_simp; refine (IH.out _ (wl ++ [j]) O1 O2 _ _ _ vO1 _ (HI6.out.step (below_drew (Below.refl _ _))).rebase HP.out).mono ?_; rintro e w7 ⟨rfl, vW7, vO7, hI7⟩; have HI7 := Aside0.mk (hI7.back (HI6.out.step (below_drew (Below.refl _ _))) (fun b h => h)); clear hI7 HI6; dsimp only))
              all_goals
                obtain ⟨A7, c7, e7⟩ := Kd.R_slice HI7.out.rw
                subst e7
                have e7n : (wl ++ [j]).length = wl.length + 1 := by simp
                have q7 : ((wl.length : Nat) : Int) ≤ (c7 : Int) := by have h := (Kd.R_reads' HI7.out.rw).2.1; rw [e7n] at h; omega
                have q8 : 0 ≤ ((wl.length : Nat) : Int) := by omega
                have e8 : wrap64 ((wl.length : Nat) : Int) = ((wl.length : Nat) : Int) := by have := HLW.out; unfold wrap64; omega
                have zf7 := blk_cell HI7.out.bw 0
                have fz7 := blk_frozen HI7.out.bw 0
                rw [e7n] at zf7
                clear e7n
                go_wp2
                go_roundw
                case rel => exact ⟨q + 1, O2, _, _, by first | rfl | go_num, hq1, HA2, ⟨HI7.out.cut⟩⟩
                case measure => (try simp only [e3]); exact (Nat.sub_lt_sub_left hql (Nat.lt_succ_self q) : js.length - (q + 1) < js.length - q)
            · cases hs
          · have hs := HA.out
            rw [List.drop_of_length_le (by omega), impl_few.loop] at hs
            injection hs with hs
            subst hs
            clear HA
            go_wp2
            go_end0
            exact ⟨rfl, _, _, HI.out.back HI2.out (fun b hb => .inl hb)⟩
      · cases h
theorem impl_few.asz (w : World) (o : Obj) : (w.alloc o).heap.size = w.heap.size + 1 := Array.size_push ..
theorem impl_few.new (w : World) (o : Obj) {g : Nat} (h : g = w.heap.size) : (w.alloc o).heap[g]? = some o := by subst h; exact blk_new w o
theorem impl_few.lit_R {α : Type} (d : Kd α) {W : World} (base e g : Nat) {xs : List α} {inner : List Value} {ok okp : Nat → Prop} (hrep : Reps (d.M W base okp) d.sz xs inner) (hok : ∀ k, okp k → ok k) (hg : g = W.heap.size) (hfresh : ok g) (hbase : base ≤ g) (hm : xs.length ≤ 9223372036854775807) :
    d.R e (W.alloc (.cells inner.toArray e)) base ok (.slice (some ⟨g, 0, none⟩) xs.length xs.length) xs := by
  subst hg
  refine ⟨fun k hk => ?_, inner, ?_, ?_⟩
  · have : W.heap.size = k := by simpa [Value.ownBlock] using hk
    subst this
    exact hfresh
  · have h2 := World.ownsRow_lit (base := base) (e := e) (size := d.sz) W inner.toArray xs.length hbase (by simpa [maxLen] using hm) (by simpa using hrep.1)
    simpa using h2
  · refine hrep.imp_ (fun p c hp => d.M_mono (fun k hk => ⟨hok k hk.1, fun he => ?_⟩) (Kd.M_below (d.M_bound hp) (below_alloc (Below.refl _ _) _)))
    have h3 : k = W.heap.size := by simpa [Value.ownBlock] using he
    have := hk.2.2.1
    omega
theorem impl_few.init (w w2 : World) (A0 : Option Addr) (n c0 : Nat) (hb : Below w.heap.size w w2) (hp : w2.heap[w.heap.size]? = some (.cells #[.slice A0 n c0] 29 (0, 0))) (W : World)
    (hW : W = ((((w2.alloc (.cells #[] 22)).alloc (.cells #[] 3)).alloc (.cells #[.slice (some ⟨w2.heap.size, 0, none⟩) 0 0] 26)).alloc (.cells #[.slice (some ⟨w2.heap.size + 1, 0, none⟩) 0 0] 22)).alloc (.cells #[.func (.func 72) #[] #[.pointer (some ⟨w.heap.size, 0, none⟩), .pointer (some ⟨w2.heap.size + 1 + 1, 0, none⟩), .pointer (some ⟨w2.heap.size + 1 + 1 + 1, 0, none⟩), .pointer (some ⟨w2.heap.size + 1 + 1 + 1 + 1, 0, none⟩)]] 61)) :
    impl_few.Inv w W A0 n c0 w.heap.size (w2.heap.size + 1 + 1) (w2.heap.size + 1 + 1 + 1) (w2.heap.size + 1 + 1 + 1 + 1) (fun _ => False) W [] (.slice (some ⟨w2.heap.size + 1, 0, none⟩) 0 0) [] (.slice (some ⟨w2.heap.size, 0, none⟩) 0 0) := by
  have hl := blk_lt hp
  have hs := hb.size
  have own : ∀ g m c, (Value.slice (some ⟨g, 0, none⟩) m c).ownBlock = some g := fun _ _ _ => rfl
  subst hW
  refine ⟨below_alloc (below_alloc (below_alloc (below_alloc (below_alloc hb _) _) _) _) _, blk_alloc (blk_alloc (blk_alloc (blk_alloc (blk_alloc hp _) _) _) _) _, ?_, ?_, ?_, ?_, ?_, by omega, by omega, Nat.le_refl _, fun b h => h.elim⟩
  · exact blk_alloc (blk_alloc (impl_few.new _ _ (by rw [impl_few.asz, impl_few.asz])) _) _
  · exact blk_alloc (impl_few.new _ _ (by rw [impl_few.asz, impl_few.asz, impl_few.asz])) _
  · exact impl_few.new _ _ (by rw [impl_few.asz, impl_few.asz, impl_few.asz, impl_few.asz])
  · exact Kd.S_alloc (Kd.S_alloc (Kd.S_alloc (Kd.S_alloc (Kd.S_bare (impl_few.lit_R (Kd.bare (Kd.slice 3 (Kd.int .i64))) (W := w2) w.heap.size 22 w2.heap.size (xs := []) (inner := []) (okp := fun _ => False) (Reps.none _ _) (fun _ h => h.elim) rfl (by rw [own]; refine ⟨⟨?_, ?_, ?_, ?_⟩, fun e => ?_⟩ <;> (try injection e) <;> omega) (by omega) (Nat.zero_le _))) _) _) _) _
  · exact Kd.R_alloc (Kd.R_alloc (Kd.R_alloc (impl_few.lit_R (Kd.int .i64) (W := w2.alloc (.cells #[] 22)) w.heap.size 3 (w2.heap.size + 1) (xs := []) (inner := []) (okp := fun _ => False) (Reps.none _ _) (fun _ h => h.elim) (impl_few.asz _ _).symm (by rw [own]; refine ⟨⟨?_, ?_, ?_, ?_⟩, fun e => ?_⟩ <;> (try injection e) <;> omega) (by omega) (Nat.zero_le _)) _) _) _
open Go.Proofs.Ytldbabadbggleaa.X in
set_option maxHeartbeats 3200000 in
set_option maxRecDepth 100000 in
theorem impl_few.calls (k : Nat) (A0_0 : Option Addr) (c0_0 : Nat) (l0_0 : List Int) (r1 : List (List Int)) (r2 : Bool) (w : World) (hr0_0 : Kd.C (Kd.int .i64) w A0_0 l0_0.length l0_0) (hc0_0 : l0_0.length ≤ c0_0) (h : impl_few.f k l0_0 = some (r1, r2)) :
    Calls Try.prog 57 #[.agg #[.slice A0_0 l0_0.length c0_0]] w fun e w' => ∃ v0_ : Value, e = .returned (.tuple #[v0_, .bool r2]) ∧ Kd.S (Kd.slice 3 (Kd.int .i64)) 22 w' w.heap.size (fun _ => True) v0_ r1 ∧ Below w.heap.size w w' := by
  have HR := Aside0.mk hr0_0
  have HC := Aside0.mk hc0_0
  clear hr0_0 hc0_0
  unfold impl_few.f at h
  obtain ⟨b, hb, h⟩ := Option.bind_eq_some_iff.mp h
  have HT := Aside0.mk hb
  clear hb
  have hu := Try.underlying29
  have B0 := Aside0.mk (below_alloc (Below.refl w.heap.size w) (.cells #[.slice A0_0 l0_0.length c0_0] 29))
  cases b with
  | false =>
    have h' : some (([] : List (List Int)), false) = some (r1, r2) := h
    injection h' with h'
    injection h' with h1 h2
    subst h1 h2
    clear h
    go_enter Try.func57, Try.ntmps57
    go_wp2_with fail
    refine (impl_IsPoset.calls k _ _ l0_0 false _ (Kd.C_below HR.out B0.out) HC.out HT.out).mono ?_
    rintro e w1 ⟨rfl, hb⟩
    have B1 := Aside0.mk (below_to B0.out hb)
    clear hb
    go_wp2
    go_ret2
    exact ⟨_, rfl, Kd.S_nil _ _ _ _ _, B1.out⟩
  | true =>
    rw [if_pos rfl] at h
    obtain ⟨ws, hws, h⟩ := Option.bind_eq_some_iff.mp h
    split at h
    · rename_i hlen
      have HW := Aside0.mk hws
      have H := Aside0.mk h
      clear hws h
      go_enter Try.func57, Try.ntmps57
      go_wp2_with fail
      refine (impl_IsPoset.calls k _ _ l0_0 true _ (Kd.C_below HR.out B0.out) HC.out HT.out).mono ?_
      rintro e w1 ⟨rfl, hb⟩
      have P1 := Aside0.mk (blk_below (blk_new w (.cells #[.slice A0_0 l0_0.length c0_0] 29)) hb)
      have x1 := blk_cell P1.out 0
      have B1 := Aside0.mk (below_to B0.out hb)
      clear hb
      go_wp2_with fail
      refine (impl_Poset_ways.calls k _ _ l0_0 ws _ (Kd.C_below HR.out B1.out) HC.out HW.out).mono ?_
      rintro e w2 ⟨v2, rfl, hR, hb⟩
      obtain ⟨A2, c2, rfl, hl2, hC2⟩ := Kd.R_reads hR
      have P2 := Aside0.mk (blk_below P1.out hb)
      have x2 := blk_cell P2.out 0
      have B2 := Aside0.mk (below_to B1.out hb)
      obtain ⟨ad, e1, hx⟩ := Kd.at_int hC2 (0 : Int) (by omega) (by omega)
      cases e1
      clear hb hR hl2 hC2 x1 P1
      have hx : w2.cell? ad = some (.int .i64 (rd ws 0)) := by
        have h := hx
        rw [show (0 : Int).toNat = 0 from rfl, show ad.add 0 = ad from by first | rfl | (cases ad; rfl) | (cases ad; simp [Addr.add])] at h
        exact h
      by_cases hg : rd ws 0 > 500
      · have h' : some (([] : List (List Int)), false) = some (r1, r2) := by have h := H.out; rw [if_pos hg] at h; exact h
        injection h' with h'
        injection h' with h1 h2
        subst h1 h2
        have hg1 : decide (500 < rd ws 0) = true := decide_eq_true hg
        go_wp2
        go_ret2
        exact ⟨_, rfl, Kd.S_nil _ _ _ _ _, B2.out⟩
      · have h := H.out
        rw [if_neg hg] at h
        obtain ⟨t, ht, h⟩ := Option.bind_eq_some_iff.mp h
        obtain ⟨O, hO, h⟩ := Option.bind_eq_some_iff.mp h
        injection h with h
        injection h with h1 h2
        subst h1 h2
        have HP := Aside0.mk ht
        have HO := Aside0.mk hO
        have hg1 : decide (500 < rd ws 0) = false := decide_eq_false hg
        clear H ht hO
        have eg := enters_ Try.func72 (by kernel_rfl) rfl
        have hsf : ∀ (a_ : Addr) (f_ : Fn) (x_ y_ : Array Value) (w_ : World), (store a_ (.func f_ x_ y_) .plain).run Try.prog w_ = stored Try.prog w_ a_ (.func f_ x_ y_) .plain := fun a_ f_ x_ y_ w_ => run_store Try.prog w_ a_ (.func f_ x_ y_) .plain rfl
        go_wp2_with fail
        refine (impl_few.lit k w A0_0 c0_0 l0_0 t _ _ _ _ HR.out HC.out HP.out l0_0.length 0 [] [] O _ _ _ _ _ (impl_few.init w w2 A0_0 l0_0.length c0_0 B2.out P2.out _ rfl) HO.out).mono ?_
        rintro e w4 ⟨rfl, vW4, vO4, hI⟩
        obtain ⟨Ao, co, eO⟩ := Kd.S_slice hI.so
        subst eO
        have zo := blk_cell hI.bo 0
        have HS := Aside0.mk (Kd.S_mono hI.so (ok' := fun _ => True) (fun _ _ => trivial))
        have HB := Aside0.mk hI.below
        clear hI
        go_wp2
        go_ret2
        exact ⟨_, rfl, HS.out, HB.out⟩
    · cases h
def impl_lineOf.kd : Kd (List Int) where
  sz := 10
  E := []
  K := fun _ x cs => x.length = 10 ∧ cs = x.map (Value.int .i64)
  M := fun _ _ _ x cs => x.length = 10 ∧ cs = x.map (Value.int .i64)
  K_len := fun h => by rw [h.2]; simp [h.1]
  K_one := fun h u hu => by rw [h.2] at hu; obtain ⟨y, _, rfl⟩ := List.mem_map.1 hu; rfl
  K_below := fun _ h => h
  K_of_M := fun h => h
  M_mono := fun _ h => h
  M_bound := fun h => h
  M_move := fun _ h => h
  M_lower := fun _ h => h
def impl_lineOf.cs (x : List Int) : Array Value := (x.map (Value.int .i64)).toArray
theorem impl_lineOf.cs_size (x : List Int) : (impl_lineOf.cs x).size = x.length := by simp [impl_lineOf.cs]
theorem impl_lineOf.cs_one (x : List Int) : (impl_lineOf.cs x).all (·.oneCell') = true := by
  simp [impl_lineOf.cs, Value.oneCell']
theorem impl_lineOf.info : (Try.prog.info? 70).map (·.size) = some 10 := by kernel_rfl
theorem impl_lineOf.isArr : ∃ d, Try.prog.underlying 70 = some d ∧ (match d with | .struct _ | .array _ _ => true | _ => false) = true := ⟨_, Try.underlying70, rfl⟩
theorem impl_lineOf.sizeI : (Try.prog.info? 3).map (·.size) = some 1 := by kernel_rfl
theorem impl_lineOf.info_of {cs : Array Value} (h : cs.size = 10) : (Try.prog.info? 70).map (·.size) = some cs.size := by rw [h]; exact impl_lineOf.info
theorem impl_lineOf.src {w : World} {A0 : Option Addr} {l0 : List Int} (h : Kd.C (Kd.int .i64) w A0 l0.length l0) (hp : 0 < l0.length) : ∃ ad, A0 = some ad ∧ ∀ (j : Nat) (v : Value), (l0.map (Value.int .i64))[j]? = some v → w.cell? (ad.add j) = some v := by
  obtain ⟨ad, e, h0⟩ := Kd.at_int h 0 (by omega) (by omega)
  refine ⟨ad, e, fun j v hj => ?_⟩
  obtain ⟨hl, hv⟩ := List.getElem?_eq_some_iff.1 hj
  rw [List.length_map] at hl
  obtain ⟨ad', e', h1⟩ := Kd.at_int h (j : Int) (by omega) (by omega)
  rw [e] at e'
  cases e'
  rw [Int.toNat_natCast] at h1
  rw [h1, ← hv, List.getElem_map]
  simp [rd, List.getD_eq_getElem?_getD, hl]
theorem impl_lineOf.spliced {w1 : World} {g : Nat} {t : TypeId} {l0 r : List Int} (hl : l0.length ≤ 10) (he : l0 ++ List.replicate (10 - l0.length) 0 = r) (h : Hid (w1.heap[g]? = some (.cells (splice (List.replicate 10 (Value.int .i64 0)) 0 (l0.map (Value.int .i64))).toArray t (0, 0)))) :
    w1.heap[g]? = some (.cells (impl_lineOf.cs r) t (0, 0)) := by
  have e : splice (List.replicate 10 (Value.int .i64 0)) 0 (l0.map (Value.int .i64)) = r.map (Value.int .i64) := by
    rw [← he]; unfold splice; rw [List.take_zero, List.nil_append, Nat.zero_add, List.drop_replicate, List.map_append, List.map_replicate, List.length_map]
  have h2 := h.out
  rw [e] at h2
  exact h2
def impl_lineOf.f (l0 : List Int) : Option (List Int) := if l0.length ≤ 10 then some (l0 ++ List.replicate (10 - l0.length) 0) else none
open Go.Proofs.Ytldbabadbggleaa.X in
set_option maxHeartbeats 1600000 in
set_option maxRecDepth 100000 in
theorem impl_lineOf.calls (A0 : Option Addr) (c0 : Nat) (l0 : List Int) (r : List Int) (w : World) (hr0 : Kd.C (Kd.int .i64) w A0 l0.length l0) (h : impl_lineOf.f l0 = some r) :
    Calls Try.prog 80 #[.slice A0 l0.length c0] w fun e w' => e = .returned (.agg (impl_lineOf.cs r)) ∧ r.length = 10 ∧ Below w.heap.size w w' := by
  unfold impl_lineOf.f at h
  split at h
  · rename_i hl
    have HE := Aside0.mk (Option.some.inj h)
    have HL := Aside0.mk hl
    have HR := Aside0.mk hr0
    clear h hl hr0
    have L1 := Aside0.mk (show r.length = 10 by rw [← HE.out]; have := HL.out; simp; omega)
    have L0 := Aside0.mk (show (impl_lineOf.cs r).size = 10 by rw [impl_lineOf.cs_size]; exact L1.out)
    have OL := Aside0.mk (show (List.replicate 10 (Value.int .i64 0)).toArray.size = (impl_lineOf.cs r).size from L0.out.symm)
    go_enter Try.func80, Try.ntmps80
    go_wp2_with (first
      | ((with_reducible refine wpList_copy_splice rfl (.tmp 5) (.tmp 6) 22 22 rfl 3 Try.underlying22 impl_lineOf.sizeI (some ⟨w.heap.size + 1, 0, none⟩) A0 10 10 l0.length c0 rfl rfl (w.heap.size + 1) 0 (List.replicate 10 (Value.int .i64 0)) 70 ?cg (l0.map (Value.int .i64)) ?cn ?cp ?cf ?c1 (w.heap.size + 1) (w.alloc (.cells (List.replicate 10 (Value.int .i64 0)).toArray 70)) ?cb (Nat.le_refl _) ?_); (case cg => exact heap_alloc2_new w _ _); (case cn => rw [List.length_map]; exact (Nat.min_eq_left HL.out).symm); (case cp => intro hp; rw [List.length_map] at hp; exact ⟨rfl, impl_lineOf.src (Kd.C_below HR.out (below_alloc (below_alloc (Below.refl _ _) _) _)) hp⟩); (case cf => rw [List.length_map, List.length_replicate]; have := HL.out; omega); (case c1 => intro v hv; obtain ⟨y, _, rfl⟩ := List.mem_map.1 hv; rfl); (case cb => exact (Below.refl _ _).alloc (by simp) _); intro w1 hg1 hb1; have G1 := Aside0.mk (impl_lineOf.spliced HL.out HE.out hg1); have B1 := Aside0.mk hb1; have G0 := Aside0.mk ((hb1.block w.heap.size (by omega)).trans (heap_alloc_new w _)); clear hg1 hb1)
      | (with_reducible refine wpList_load_row rfl 70 (.tmp 3) rfl (w.heap.size + 1) rfl 70 (impl_lineOf.cs r) (0, 0) _ G1.out Try.underlying70 rfl (impl_lineOf.info_of L0.out) ?_)
      | (with_reducible refine wpList_store_row rfl 70 (.tmp 2) (.tmp 8) rfl w.heap.size (impl_lineOf.cs r) rfl rfl 70 _ G0.out (impl_lineOf.info_of L0.out) OL.out (impl_lineOf.cs_one r) ?_))
    refine bodyPost_ret (v := .agg (impl_lineOf.cs r)) (results_cell_row rfl _ _ w.heap.size 70 (impl_lineOf.cs r) (0, 0) _ rfl (setRow_heap _ _ _ _ _ _ G0.out) Try.underlying70 rfl (impl_lineOf.info_of L0.out)) rfl ⟨rfl, L1.out, ?_⟩
    exact below_setRow (((Below.refl w.heap.size w).alloc (Nat.le_refl _) _).trans (B1.out.mono (by omega))) (Nat.le_refl _) _
  · cases h
theorem impl_cycles_line.grown_setRow (w : World) (g : Nat) (cs : Array Value) : w.grownBy (w.setRow g cs) (some g) :=
  ⟨rfl, rfl, rfl, by simp, fun k _ hk => setRow_other w g k cs (fun e => hk (by rw [e]))⟩
theorem impl_cycles_line.store {P : Program} {ops : Array Oper} {rest : List Oper} {o : Oper} {a : Act} {w : World} {Q : Exit → Act → World → Prop} (hgd : o.guard = none) (ty : TypeId) (x y : Operand) (ho : o.op = .store ty x y)
    (g : Nat) (cells : Array Value) (hx : a.eval x = .pointer (some ⟨g, 0, none⟩)) (hy : a.eval y = .agg cells)
    (t : TypeId) (old : Array Value) (hg : w.heap[g]? = some (.cells old t (0, 0))) (hi : (P.info? ty).map (·.size) = some cells.size)
    (hold : old.size = cells.size) (h1 : cells.all (·.oneCell') = true)
    (h : ∀ W1, W1.heap[g]? = some (.cells cells t (0, 0)) → w.grownBy W1 (some g) → wpList P ops Q rest (a.put o.dst undef) W1) : wpList P ops Q (o :: rest) a w :=
  wpList_store_row hgd ty x y ho g cells hx hy t old hg hi hold h1 (h _ (setRow_heap _ _ _ _ _ _ hg) (impl_cycles_line.grown_setRow _ _ _))
theorem impl_cycles_line.store_new {P : Program} {ops : Array Oper} {rest : List Oper} {o : Oper} {a : Act} {w : World} {Q : Exit → Act → World → Prop} (hgd : o.guard = none) (ty : TypeId) (x y : Operand) (ho : o.op = .store ty x y)
    (cells : Array Value) (hx : a.eval x = .pointer (some ⟨w.heap.size, 0, none⟩)) (hy : a.eval y = .agg cells)
    (t : TypeId) (old : Array Value) (hi : (P.info? ty).map (·.size) = some cells.size)
    (hold : old.size = cells.size) (h1 : cells.all (·.oneCell') = true)
    (h : ∀ W1, W1.heap[w.heap.size]? = some (.cells cells t (0, 0)) → Below w.heap.size w W1 → w.heap.size < W1.heap.size → wpList P ops Q rest (a.put o.dst undef) W1) : wpList P ops Q (o :: rest) a (w.alloc (.cells old t (0, 0))) :=
  wpList_store_row hgd ty x y ho w.heap.size cells hx hy t old (blk_new _ _) hi hold h1 (h _ (setRow_heap _ _ _ _ _ _ (blk_new _ _)) (below_setRow (below_alloc (Below.refl _ _) _) (Nat.le_refl _) _) (by simp))
theorem impl_cycles_line.load_at {P : Program} {ops : Array Oper} {rest : List Oper} {o : Oper} {a : Act} {w : World} {Q : Exit → Act → World → Prop} (hgd : o.guard = none) (ty : TypeId) (x : Operand) (ho : o.op = .load ty x)
    (ad : Addr) (hx : a.eval x = .pointer (some ad)) (cs : Array Value) (d : TypeDesc) (hc : ∀ j v, cs.toList[j]? = some v → w.cell? (ad.add j) = some v)
    (hu : P.underlying ty = some d) (hd : (match d with | .struct _ | .array _ _ => true | _ => false) = true) (hi : (P.info? ty).map (·.size) = some cs.size)
    (h : wpList P ops Q rest (a.put o.dst (.agg cs)) w) : wpList P ops Q (o :: rest) a w := by
  refine wpList_plain hgd fun K hK => ?_
  have hl : (loadCells ad cs.toList.length).run P w = .ok cs.toList.toArray w := run_loadCells_list (P := P) w ad cs.toList hc
  have hrun : (loadVar ty ad).run P w = .ok (.agg cs) w := by
    cases hq : P.info? ty with
    | none => simp [hq] at hi
    | some i =>
      have hs : i.size = cs.size := by simpa [hq] using hi
      have hagg : (isAgg ty).run P w = .ok true w := by
        unfold isAgg
        rw [Sem.run_bind, run_underlying hu w]
        cases d <;> simp_all
      simp only [Array.length_toList, Array.toArray_toList] at hl
      simp [loadVar, Sem.run_bind, hagg, sizeOf, typeInfo, hq, hs, hl]
  unfold Oper.wp execOp
  simp only [ho, hx, Instr.loadAt, Instr.sureAddr, Sem.run_bind, Sem.run_pure, Result.andThen_ok, hrun]
  exact hK _ _ h
def impl_cycles_line.key (x : List Int) : Lit := .string (keyBytes (x.map (Lit.int .i64)))
def impl_cycles_line.okk (x : List Int) : Bool := decide (x.length = 10) && x.all fun v => (Lit.int .i64 v).wf
theorem impl_cycles_line.okk_len {x : List Int} (h : impl_cycles_line.okk x = true) : x.length = 10 := by simp [impl_cycles_line.okk] at h; exact h.1
theorem impl_cycles_line.arr : Go.WideMaps.ArrKey Try.prog 70 3 10 := ⟨Try.underlying70, by kernel_rfl, by kernel_rfl, by kernel_rfl⟩
theorem impl_cycles_line.keyOf_mk {x : List Int} (h : impl_cycles_line.okk x = true) : keyOf Try.prog 70 (.agg (impl_lineOf.cs x)) = some (impl_cycles_line.key x) := by
  have A := impl_cycles_line.arr
  have he := Try.underlying3
  have hx := impl_cycles_line.okk_len h
  have hw : ∀ v ∈ x, (Lit.int .i64 v).wf = true := by simp [impl_cycles_line.okk] at h; exact h.2
  have hsz : ∃ m, Try.prog.types.size = m + 1 := ⟨Try.prog.types.size - 1, by kernel_rfl⟩
  have hkt := A.keyType hsz
  obtain ⟨m, hm⟩ := hsz
  match x, hx with
  | [a0, a1, a2, a3, a4, a5, a6, a7, a8, a9], _ =>
    simp only [List.mem_cons, List.not_mem_nil, or_false, forall_eq_or_imp, forall_eq] at hw
    obtain ⟨w0, w1, w2, w3, w4, w5, w6, w7, w8, w9⟩ := hw
    unfold keyOf
    simp only [A.hu]
    rw [if_pos (by simp [hkt, Value.formed, A.hu, A.size, impl_lineOf.cs]), hm]
    unfold Program.keyLits
    simp only [A.hu, Value.cells, impl_lineOf.cs, List.map_cons, List.map_nil]
    rw [if_pos (by rw [A.size]; rfl), show List.range 10 = [0, 1, 2, 3, 4, 5, 6, 7, 8, 9] from rfl]
    simp only [List.mapM_cons, List.mapM_nil]
    simp [A.one, Program.keyLits, he, impl_cycles_line.key, w0, w1, w2, w3, w4, w5, w6, w7, w8, w9]
def impl_cycles_line.Fvb (P : Program) (g : Nat) (bd lb : Array Value) (x r : Value) (w : World) : Prop :=
  ∀ W, Below w.heap.size w W → Calls P g (bd.push x ++ lb) W fun e w' => e = .returned r ∧ Below W.heap.size W w'
theorem impl_cycles_line.Fvb.calls {P : Program} {g : Nat} {bd lb : Array Value} {x r : Value} {w W : World} (h : impl_cycles_line.Fvb P g bd lb x r w) (hb : Below w.heap.size w W) :
    Calls P g (bd.push x ++ lb) W fun e w' => e = .returned r ∧ Below W.heap.size W w' := h W hb
theorem impl_cycles_line.bool_inv {H : Type} {P : Program} {e : TypeId} (he : P.underlying e = some .bool) {v : Value} {z : DataW H × List MemPlace} (h : plainElem P e v = some z) : ∃ c, v = .bool c ∧ z = (.lit (.bool c), []) := by
  unfold plainElem at h
  rw [he] at h
  cases v <;> simp at h
  exact ⟨_, rfl, h.symm⟩
theorem impl_cycles_line.look {H : Type} {P : Program} (w : World) {ops : Array Oper} {rest : List Oper} {o : Oper} {a : Act} {Q : Exit → Act → World → Prop}
    (hg : o.guard = none) (m x : Operand) (t : TypeId) (hop : o.op = Op.lookup t m x false)
    (k e : TypeId) (K : Go.Maps.Keyed P k) (ht : P.underlying t = some (.map k e)) (he : P.underlying e = some .bool) (hz : (zeroValue e).run P w = .ok (.bool false) w) (b n : Nat) (D : DataW H)
    (hm : a.eval m = .map (some b)) (hown : w.ownsMap P k (plainElem P e) b n D) (key : Value) (kl : Lit) (hx : a.eval x = key) (hkey : keyOf P k key = some kl) (r : Bool) (hr : D.atKey kl (.lit (.bool false)) = .lit (.bool r))
    (hK : wpList P ops Q rest (a.put o.dst (.bool r)) w) :
    wpList P ops Q (o :: rest) a w := by
  refine wpList_plain hg fun K' hK' => ?_
  obtain ⟨v, ps, hrun, hv⟩ := hown.lookup K ht hz (plainElem_bool he false) hkey
  obtain ⟨c, rfl, hc⟩ := impl_cycles_line.bool_inv he hv
  simp only [Prod.mk.injEq] at hc
  rw [hr] at hc
  have hcr : r = c := by have := hc.1; injection this with this; injection this
  subst hcr
  unfold Oper.wp
  simp [execOp, hop, hm, hx, hrun, Result.andThen]
  exact hK' _ _ hK
def impl_cycles_line.own : Nat → (List Int → Option (List Int)) → List (List Int) → List (List Int) → List Int → Option (List (List Int) × List (List Int))
  | 0, _, _, _, _ => none
  | k + 1, m, met, own, x => if impl_cycles_line.okk x = true then (if met.contains x = true then some (met, own) else if met.length < 17592186044416 then (if own.length < 1759218604441 then (m x).bind fun y => impl_cycles_line.own k m (met ++ [x]) (own ++ [x]) y else none) else none) else none
def impl_cycles_line.go (k : Nat) (m : List Int → Option (List Int)) : List (List Int) → List (List Int) → List (List (List Int)) → Option (List (List (List Int)))
  | [], _, out => some out
  | x :: l, met, out => if impl_cycles_line.okk x = true then (if met.contains x = true then impl_cycles_line.go k m l met out else (impl_cycles_line.own k m met [] x).bind fun r => if out.length < 5864062014805 then impl_cycles_line.go k m l r.1 (out ++ [r.2]) else none) else none
def impl_cycles_line.f (k : Nat) (m : List Int → Option (List Int)) (l0 : List (List Int)) : Option (List (List (List Int))) := impl_cycles_line.go k m l0 [] []
theorem impl_cycles_line.own_mono {m m' : List Int → Option (List Int)} (hm : ∀ x, LeO (m x) (m' x)) : ∀ k met own x, LeO (impl_cycles_line.own k m met own x) (impl_cycles_line.own (k + 1) m' met own x)
  | 0, _, _, _ => fun r h => by cases h
  | k + 1, met, own, x => by
    rw [impl_cycles_line.own, impl_cycles_line.own]
    exact LeO.ite (LeO.ite (LeO.refl _) (LeO.ite (LeO.ite (LeO.bind (hm _) fun y => impl_cycles_line.own_mono hm k _ _ _) (LeO.refl _)) (LeO.refl _))) (LeO.refl _)
theorem impl_cycles_line.go_mono {m m' : List Int → Option (List Int)} (hm : ∀ x, LeO (m x) (m' x)) (k : Nat) : ∀ l met out, LeO (impl_cycles_line.go k m l met out) (impl_cycles_line.go (k + 1) m' l met out)
  | [], met, out => LeO.refl _
  | x :: l, met, out => by
    rw [impl_cycles_line.go, impl_cycles_line.go]
    exact LeO.ite (LeO.ite (impl_cycles_line.go_mono hm k l _ _) (LeO.bind (impl_cycles_line.own_mono hm k _ _ _) fun r => LeO.ite (impl_cycles_line.go_mono hm k l _ _) (LeO.refl _))) (LeO.refl _)
theorem impl_cycles_line.mono {m m' : List Int → Option (List Int)} (hm : ∀ x, LeO (m x) (m' x)) (k : Nat) (l : List (List Int)) : LeO (impl_cycles_line.f k m l) (impl_cycles_line.f (k + 1) m' l) := impl_cycles_line.go_mono hm k l _ _
theorem impl_cycles_line.zeroE (w : World) : (zeroValue 4).run Try.prog w = .ok (.bool false) w := by kernel_rfl
theorem impl_cycles_line.laid : laidOutB Try.prog = true := by kernel_rfl
theorem impl_cycles_line.row : (70 : TypeId) < Try.prog.types.size := of_decide_eq_true (by kernel_rfl)
theorem impl_cycles_line.wide : (match Try.prog.underlying 70 with | some (.array _ _) | some (.struct _) => true | _ => false) = true := by rw [Try.underlying70]
set_option maxRecDepth 100000 in
theorem impl_cycles_line.law : Go.Maps.Keyed Try.prog 70 := Go.Maps.Keyed.of_law (deep_law_laid impl_cycles_line.laid (m := 2) (by omega) impl_cycles_line.row (by kernel_rfl) impl_cycles_line.wide)
theorem impl_cycles_line.cs_inj {x y : List Int} (h : impl_lineOf.cs x = impl_lineOf.cs y) : x = y := by
  have h2 : x.map (Value.int .i64) = y.map (Value.int .i64) := by simpa [impl_lineOf.cs] using congrArg Array.toList h
  have : ∀ (x y : List Int), x.map (Value.int .i64) = y.map (Value.int .i64) → x = y := by
    intro x
    induction x with
    | nil => intro y h; cases y <;> simp_all
    | cons a l ih => intro y h; cases y with
      | nil => simp at h
      | cons b m => simp only [List.map_cons, List.cons.injEq, Value.int.injEq, true_and] at h; rw [h.1, ih m h.2]
  exact this x y h2
set_option maxRecDepth 100000 in
theorem impl_cycles_line.key_inj {x y : List Int} (hx : impl_cycles_line.okk x = true) (hy : impl_cycles_line.okk y = true) (h : impl_cycles_line.key x = impl_cycles_line.key y) : x = y := by
  have a := impl_cycles_line.keyOf_mk hx
  have b := impl_cycles_line.keyOf_mk hy
  rw [← h] at b
  have e := impl_cycles_line.law.inj a b
  injection e with e
  exact impl_cycles_line.cs_inj e
set_option maxRecDepth 100000 in
theorem impl_cycles_line.put_at {D : DataW Unit} {met : List (List Int)} {x : List Int} (hx : impl_cycles_line.okk x = true) (hD : Go.Maps.IsMap D) (h : ∀ y, impl_cycles_line.okk y = true → D.atKey (impl_cycles_line.key y) (.lit (.bool false)) = .lit (.bool (met.contains y))) (y : List Int) (hy : impl_cycles_line.okk y = true) :
    (D.put (impl_cycles_line.key x) (.lit (.bool true))).atKey (impl_cycles_line.key y) (.lit (.bool false)) = .lit (.bool ((met ++ [x]).contains y)) := by
  by_cases e : y = x
  · subst e
    rw [Go.Maps.atKey_put_same hD (show WideAt.IsKeyLit (impl_cycles_line.key y) from trivial)]
    simp
  · rw [Go.Maps.atKey_put_other (fun he => e (impl_cycles_line.key_inj hy hx he)), h y hy]
    simp [e]
theorem impl_cycles_line.infoL : (Try.prog.info? 70).map (fun i => (i.zero, i.size, i.bytes)) = some (some (.agg #[.int .i64 0, .int .i64 0, .int .i64 0, .int .i64 0, .int .i64 0, .int .i64 0, .int .i64 0, .int .i64 0, .int .i64 0, .int .i64 0]), 10, 80) := by kernel_rfl
theorem impl_cycles_line.map_ne {w : World} {b n : Nat} {D : DataW Unit} {k : TypeId} {R : Value → Option (DataW Unit × List MemPlace)} {cs : Array Value} {t : TypeId} (h : w.ownsMap Try.prog k R b n D) (h2 : w.heap[b]? = some (.cells cs t (0, 0))) : False := by
  obtain ⟨es, clock, hb, _⟩ := h
  rw [hb] at h2
  cases h2
theorem impl_cycles_line.infoS : (Try.prog.info? 78).map (fun i => (i.zero, i.size, i.bytes)) = some (some (.slice none 0 0), 1, 24) := by kernel_rfl
theorem impl_cycles_line.fill1 {y : List Int} (h : y.length = 10) : Instr.fill (fun i => some (i * 10, 10)) ((Array.range (1 * 10)).map ((Value.agg #[.int .i64 0, .int .i64 0, .int .i64 0, .int .i64 0, .int .i64 0, .int .i64 0, .int .i64 0, .int .i64 0, .int .i64 0, .int .i64 0]).cells[· % (Value.agg #[.int .i64 0, .int .i64 0, .int .i64 0, .int .i64 0, .int .i64 0, .int .i64 0, .int .i64 0, .int .i64 0, .int .i64 0, .int .i64 0]).cells.size]!)) [(0, Value.agg (impl_lineOf.cs y))] = some (y.map (Value.int .i64)).toArray := by
  have h2 := Great.fill_whole (s := 10) (by omega) [Value.agg (impl_lineOf.cs y)] ((Array.range (1 * 10)).map ((Value.agg #[.int .i64 0, .int .i64 0, .int .i64 0, .int .i64 0, .int .i64 0, .int .i64 0, .int .i64 0, .int .i64 0, .int .i64 0, .int .i64 0]).cells[· % (Value.agg #[.int .i64 0, .int .i64 0, .int .i64 0, .int .i64 0, .int .i64 0, .int .i64 0, .int .i64 0, .int .i64 0, .int .i64 0, .int .i64 0]).cells.size]!)) (fun v hv => by rw [List.mem_singleton.1 hv]; show (impl_lineOf.cs y).size = 10; rw [impl_lineOf.cs_size]; exact h) (by rw [Array.size_map, Array.size_range]; rfl)
  refine h2.trans ?_
  simp [Value.cells, impl_lineOf.cs]
theorem impl_cycles_line.build1 {ops : Array Oper} {rest : List Oper} {o : Oper} {a : Act} {w : World} {Q : Exit → Act → World → Prop} (hg : o.guard = none) (x : Operand) (ho : o.op = .buildSlice 78 1 #[(0, x)]) (y : List Int) (hx : a.eval x = .agg (impl_lineOf.cs y)) (hy : y.length = 10)
    (h : wpList Try.prog ops Q rest (a.put o.dst (.slice (some ⟨w.heap.size, 0, none⟩) 1 1)) (w.alloc (.cells (y.map (Value.int .i64)).toArray 70))) : wpList Try.prog ops Q (o :: rest) a w := by
  obtain ⟨ie, hie, hz⟩ := Option.map_eq_some_iff.1 impl_cycles_line.infoL
  simp only [Prod.mk.injEq] at hz
  obtain ⟨h1, h2, h3⟩ := hz
  refine wpList_buildSlice hg 78 70 1 #[(0, x)] ho _ ie _ Try.underlying78 hie h1 (by rw [h2]; omega) (by rw [h2]; omega) ?_ h
  rw [h2]
  have : (Array.map (fun (p : Nat × Operand) => (p.1, a.eval p.2)) #[(0, x)]).toList = [(0, Value.agg (impl_lineOf.cs y))] := by simp [hx]
  exact (congrArg _ this).trans (impl_cycles_line.fill1 hy)
open Go.Proofs.Ytldbabadbggleaa.X in
set_option maxHeartbeats 3200000 in
set_option maxRecDepth 100000 in
theorem impl_cycles_line.calls (k : Nat) (A0 : Option Addr) (c0 : Nat) (l0 : List (List Int)) (gF : Nat) (bdF lbF : Array Value) (m : List Int → Option (List Int)) (r : List (List (List Int))) (w : World) (eg : ∀ args w, (callFunc gF args).run Try.prog w = .ok (.enter gF args) w)
    (hr0 : Kd.C impl_lineOf.kd w A0 l0.length l0) (hl : l0.length ≤ 9223372036854775806) (hpl : ∀ x y, m x = some y → y.length = 10) (hp : ∀ x y, m x = some y → impl_cycles_line.Fvb Try.prog gF bdF lbF (.agg (impl_lineOf.cs x)) (.agg (impl_lineOf.cs y)) w) (h : impl_cycles_line.f k m l0 = some r) :
    Calls Try.prog 81 #[.slice A0 l0.length c0, .func (.func gF) bdF lbF] w fun e w' => ∃ v0_ : Value, e = .returned v0_ ∧ Kd.S (Kd.slice 70 impl_lineOf.kd) 78 w' w.heap.size (fun _ => True) v0_ r ∧ Below w.heap.size w w' := by
  have HR := Aside0.mk hr0
  have HL := Aside0.mk hl
  have HP := Aside0.mk hp
  have HPL := Aside0.mk hpl
  have HF := Aside0.mk h
  have HB := Aside0.mk (Below.refl w.heap.size w)
  clear hr0 hl hp h hpl
  have hmm := @run_makeMap Try.prog
  go_enter Try.func81, Try.ntmps81
  go_wp2_with (first | ((with_reducible refine gate_dst (N := 11) rfl ?_); refine Kd.S_lit (Kd.slice 70 impl_lineOf.kd) _ 78 ?hg (N := 11) ?hd (xs := ([] : List (List (List Int)))) (inner := []) (ok := fun _ => True) (okp := fun _ => True) ?hr ?hp (fun _ hk => hk) trivial (Below.refl _ _) (Nat.le_refl _) (by simp) ?_; (case hd => rfl); (case hg => rfl); (case hr => first | (go_simp; done) | (go_simp; rfl)); (case hp => exact (Reps.none _ _)); intro v11 w2 ho hb hg_ hnew_; have HO := Aside0.mk ho; have B2 := Aside0.mk hb; clear ho hb hg_ hnew_))
  obtain ⟨W0, hW0⟩ : ∃ W0, W0 = w2.alloc (.map #[] 0) := ⟨_, rfl⟩
  rw [← hW0]
  have M0 := Aside0.mk (show W0.ownsMap (H := Unit) Try.prog 70 (plainElem Try.prog 4) w2.heap.size 0 (.map []) by rw [hW0]; exact World.ownsMap_made _ _ _ _)
  have R0 := Aside0.mk (show Kd.S (Kd.slice 70 impl_lineOf.kd) 78 W0 w.heap.size (fun k => k ≠ w2.heap.size) v11 [] by rw [hW0]; exact Kd.S_alloc (Kd.S_mono (Kd.S_bound HO.out) (fun k hk => by have := hk.2.2.1; omega)) _)
  have B3 := Aside0.mk (show Below w.heap.size w W0 by rw [hW0]; exact below_alloc B2.out _)
  have GB := Aside0.mk (show w.heap.size ≤ w2.heap.size from B2.out.size)
  generalize w2.heap.size = b at M0 R0 GB ⊢
  clear hW0 HO B2 hmm
  go_loopw [5, 15] (fun v5 v15 wr => ∃ (q : Nat) (met : List (List Int)) (out : List (List (List Int))) (D : DataW Unit), v15 = .int .i64 q ∧ q ≤ l0.length ∧ Aside0 (impl_cycles_line.go k m (l0.drop q) met out = some r) ∧ Aside0 (wr.ownsMap Try.prog 70 (plainElem Try.prog 4) b met.length D) ∧ Aside0 (∀ y, impl_cycles_line.okk y = true → D.atKey (impl_cycles_line.key y) (.lit (.bool false)) = .lit (.bool (met.contains y))) ∧ Aside0 (Kd.S (Kd.slice 70 impl_lineOf.kd) 78 wr w.heap.size (fun k => k ≠ b) v5 out) ∧ Aside0 (Below w.heap.size w wr)) (fun _ v15 _ => l0.length - (intOf v15).toNat)
  case atStart => exact ⟨0, [], [], _, rfl, Nat.zero_le _, ⟨by rw [List.drop_zero]; exact HF.out⟩, M0, ⟨fun y _ => rfl⟩, R0, B3⟩
  case round =>
    obtain ⟨q, met, out, D, rfl, hq, HG, HM, HD, HO, HB⟩ := hrel
    by_cases hlt : q < l0.length
    · have hG := HG.out
      rw [List.drop_eq_getElem_cons hlt, impl_cycles_line.go] at hG
      split at hG
      · rename_i hwf
        obtain ⟨ad, cc, e1, hcl, hK, hcc⟩ := Kd.C_get (Kd.C_below HR.out HB.out) ([] : List Int) (q : Int) (by omega) (by omega)
        cases e1
        rw [Int.toNat_natCast] at hK hcc
        have e3 : l0.getD q [] = l0[q] := by simp [List.getD_eq_getElem?_getD, hlt]
        rw [e3] at hK
        have e2 : wrap64 ((q : Int) + 1) = ((q + 1 : Nat) : Int) := by have := HL.out; unfold wrap64; omega
        obtain ⟨x, hxe⟩ : ∃ x, x = l0[q] := ⟨_, rfl⟩
        rw [← hxe] at hK hG hwf
        obtain ⟨hxl, rfl⟩ := hK
        have WF := Aside0.mk hwf
        have XC := Aside0.mk (show ∀ (j : Nat) (v : Value), (impl_lineOf.cs x).toList[j]? = some v → wr.cell? ((ad.add (q * 10)).add j) = some v by intro j v hv; rw [show (ad.add (q * 10)).add j = ad.add (q * 10 + j) from Addr.add_add _ _ _]; exact hcc j v (by simpa [impl_lineOf.cs] using hv))
        have XS := Aside0.mk (show (impl_lineOf.cs x).size = 10 by rw [impl_lineOf.cs_size]; exact hxl)
        clear hxe hwf hcc hcl e3 hxl
        have p1 : 0 ≤ ((q : Nat) : Int) := by omega
        have q1 : ((q : Nat) : Int) < (l0.length : Int) := by omega
        by_cases hc : met.contains x = true
        · rw [if_pos hc] at hG
          have HC := Aside0.mk hc
          have HG2 := Aside0.mk hG
          clear hc hG HG
          go_wp2_with (first | ((with_reducible refine impl_cycles_line.load_at rfl 70 (.tmp 17) rfl (ad.add (q * 10)) rfl (impl_lineOf.cs x) _ XC.out Try.underlying70 rfl (impl_lineOf.info_of XS.out) ?_)) | ((with_reducible refine impl_cycles_line.store_new rfl 70 (.tmp 8) (.tmp 18) rfl (impl_lineOf.cs x) rfl rfl 70 _ (impl_lineOf.info_of XS.out) ?hs (impl_lineOf.cs_one x) ?_); (case hs => exact XS.out.symm); intro w1 hx8 hb hz; have X8 := Aside0.mk hx8; have B1 := Aside0.mk (below_to HB.out hb); have M1 := Aside0.mk (HM.out.kept (grown_of_below hb none) (by simp)); have O1 := Aside0.mk (Kd.S_below HO.out hb); clear hx8 hb hz) | ((with_reducible refine wpList_load_row rfl 70 (.tmp 8) rfl wr.heap.size rfl 70 (impl_lineOf.cs x) (0, 0) _ X8.out Try.underlying70 rfl (impl_lineOf.info_of XS.out) ?_)) | (at_lookup; refine impl_cycles_line.look _ rfl _ _ 86 rfl 70 4 impl_cycles_line.law Try.underlying86 Try.underlying4 (impl_cycles_line.zeroE _) b met.length D rfl M1.out _ (impl_cycles_line.key x) rfl (impl_cycles_line.keyOf_mk WF.out) true (by rw [HD.out _ WF.out, HC.out]) ?_))
          go_roundw
          case rel => exact ⟨q + 1, met, out, D, by first | rfl | go_num, by omega, HG2, M1, HD, O1, B1⟩
          case measure => (try simp only [e2]); exact (Nat.sub_lt_sub_left (by omega) (Nat.lt_succ_self q) : l0.length - (q + 1) < l0.length - q)
        · rw [if_neg hc] at hG
          obtain ⟨rr, hrr, hG⟩ := Option.bind_eq_some_iff.mp hG
          split at hG
          · rename_i hol
            have HOL := Aside0.mk hol
            have HC := Aside0.mk (show met.contains x = false by simpa using hc)
            have HG2 := Aside0.mk hG
            have HRR := Aside0.mk hrr
            clear hol hc hG hrr HG
            go_wp2_with (first | ((with_reducible refine impl_cycles_line.load_at rfl 70 (.tmp 17) rfl (ad.add (q * 10)) rfl (impl_lineOf.cs x) _ XC.out Try.underlying70 rfl (impl_lineOf.info_of XS.out) ?_)) | ((with_reducible refine impl_cycles_line.store_new rfl 70 (.tmp 8) (.tmp 18) rfl (impl_lineOf.cs x) rfl rfl 70 _ (impl_lineOf.info_of XS.out) ?hs (impl_lineOf.cs_one x) ?_); (case hs => exact XS.out.symm); intro w1 hx8 hb hz; have X8 := Aside0.mk hx8; have B1 := Aside0.mk (below_to HB.out hb); have M1 := Aside0.mk (HM.out.kept (grown_of_below hb none) (by simp)); have O1 := Aside0.mk (Kd.S_below HO.out hb); clear hx8 hb hz) | ((with_reducible refine wpList_load_row rfl 70 (.tmp 8) rfl wr.heap.size rfl 70 (impl_lineOf.cs x) (0, 0) _ X8.out Try.underlying70 rfl (impl_lineOf.info_of XS.out) ?_)) | ((with_reducible refine wpList_load_row rfl 70 (.tmp 8) rfl wr.heap.size rfl 70 (impl_lineOf.cs x) (0, 0) _ X84.out Try.underlying70 rfl (impl_lineOf.info_of XS.out) ?_)) | (at_lookup; refine impl_cycles_line.look _ rfl _ _ 86 rfl 70 4 impl_cycles_line.law Try.underlying86 Try.underlying4 (impl_cycles_line.zeroE _) b met.length D rfl M1.out _ (impl_cycles_line.key x) rfl (impl_cycles_line.keyOf_mk WF.out) false (by rw [HD.out _ WF.out, HC.out]) ?_) | ((with_reducible refine gate_dst (N := 22) rfl ?_); refine Kd.R_lit impl_lineOf.kd w.heap.size 70 ?hg (N := 22) ?hd (xs := ([] : List (List Int))) (inner := []) (ok := fun k_ => k_ ≠ b ∧ some k_ ≠ (u5 : Value).ownBlock) (okp := fun k_ => k_ ≠ b ∧ some k_ ≠ (u5 : Value).ownBlock) ?hr ?hp (fun _ hk => hk) ?hf B1.out B1.out.size (by simp) ?_; (case hd => rfl); (case hg => rfl); (case hr => first | (go_simp; done) | (go_simp; rfl)); (case hp => exact (Reps.none _ _)); (case hf => exact ⟨by have := M1.out.lt; omega, fun e => by have := Kd.S_lt O1.out _ e.symm; omega⟩); intro v22 w4 ho hb hg hnew; have HW := Aside0.mk ho; have B4 := Aside0.mk hb; have X84 := Aside0.mk (blk_grown X8.out hg (by simp)); have HM4 := Aside0.mk (M1.out.kept hg (by simp)); have HO4 := Aside0.mk (show Kd.S (Kd.slice 70 impl_lineOf.kd) 78 w4 w.heap.size (fun k_ => k_ ≠ b ∧ some k_ ≠ (v22 : Value).ownBlock) u5 out from Kd.S_grown (Kd.S_mono (Kd.S_bound O1.out) (fun k hk => ⟨hk.1, fun e => by obtain ⟨b', h1, h2⟩ := hnew; rw [h1] at e; injection e with e; have := hk.2.2.1; omega⟩)) hg (fun _ _ => by simp)); clear ho hb hg hnew) | ((with_reducible refine impl_cycles_line.store_new rfl 70 (.tmp 10) (.tmp 23) rfl (impl_lineOf.cs x) rfl rfl 70 _ (impl_lineOf.info_of XS.out) ?hs (impl_lineOf.cs_one x) ?_); (case hs => exact XS.out.symm); intro w5 hx10 hb hz; have X10 := Aside0.mk hx10; have BX := Aside0.mk hz; have B5 := Aside0.mk (below_to B4.out hb); have HM5 := Aside0.mk (HM4.out.kept (grown_of_below hb none) (by simp)); have HO5 := Aside0.mk (Kd.S_below HO4.out hb); have HW5 := Aside0.mk (show Kd.R impl_lineOf.kd 70 w5 w.heap.size (fun k_ => k_ ≠ b ∧ k_ ≠ w4.heap.size ∧ some k_ ≠ (u5 : Value).ownBlock) v22 [] from Kd.R_below (Kd.R_mono (Kd.R_bound HW.out) (fun k hk => ⟨hk.1.1, by have := hk.2.2.1; omega, hk.1.2⟩)) hb); clear hx10 hb hz))
            have LO := Aside0.mk (fun (k_ : Nat) (e : (u5 : Value).ownBlock = some k_) => Kd.S_lt HO5.out k_ e)
            have BL := Aside0.mk HM5.out.lt
            have SZ5 := Aside0.mk (Nat.le_refl w5.heap.size)
            (try simp only [Act.put, List.setIfInBounds_toArray, List.set_cons_zero, List.set_cons_succ])
            go_loopg [9, 10] k (fun kq v9 v10 wi => ∃ (met1 own : List (List Int)) (y : List Int) (D1 : DataW Unit) (bx : Nat), v10 = .pointer (some ⟨bx, 0, none⟩) ∧ Aside0 (impl_cycles_line.own kq m met1 own y = some rr) ∧ Aside0 (kq ≤ k) ∧ Aside0 (wi.heap[bx]? = some (.cells (impl_lineOf.cs y) 70 (0, 0))) ∧ Aside0 (wi.ownsMap Try.prog 70 (plainElem Try.prog 4) b met1.length D1) ∧ Aside0 (∀ y, impl_cycles_line.okk y = true → D1.atKey (impl_cycles_line.key y) (.lit (.bool false)) = .lit (.bool (met1.contains y))) ∧ Aside0 (Kd.S (Kd.slice 70 impl_lineOf.kd) 78 wi w.heap.size (fun k_ => k_ ≠ b ∧ some k_ ≠ (v9 : Value).ownBlock) u5 out) ∧ Aside0 (Kd.R impl_lineOf.kd 70 wi w.heap.size (fun k_ => k_ ≠ b ∧ k_ ≠ bx ∧ some k_ ≠ (u5 : Value).ownBlock) v9 own) ∧ Aside0 (w5.heap.size ≤ wi.heap.size) ∧ Aside0 (Below w.heap.size w wi))
            case atStart => exact ⟨met, [], x, D, _, rfl, HRR, ⟨Nat.le_refl _⟩, X10, HM5, HD, HO5, HW5, SZ5, B5⟩
            case round =>
              clear HM5 HD HO5 HW5 SZ5 B5 X10 X84 X8 HM4 HO4 HW B4 M1 O1 B1
              obtain ⟨met1, own, y, D1, bx, rfl, HA, HK1, HX, HM, HD, HO, HW, SZ, HB⟩ := hrel
              cases gk with
              | zero => exact absurd HA.out (by simp [impl_cycles_line.own])
              | succ k1 =>
                have hA := HA.out
                rw [impl_cycles_line.own] at hA
                split at hA
                · rename_i hwf
                  have WF2 := Aside0.mk hwf
                  have YL := Aside0.mk (impl_cycles_line.okk_len hwf)
                  have YS := Aside0.mk (show (impl_lineOf.cs y).size = 10 by rw [impl_lineOf.cs_size]; exact impl_cycles_line.okk_len hwf)
                  clear hwf HA
                  by_cases hc : met1.contains y = true
                  · rw [if_pos hc] at hA
                    have hrr := Option.some.inj hA
                    subst hrr
                    have HC2 := Aside0.mk hc
                    clear hA hc
                    obtain ⟨Ao, co, eo⟩ := Kd.R_slice HW.out
                    subst eo
                    go_wp2_with (first | ((with_reducible refine wpList_load_row rfl 70 (.tmp 10) rfl bx rfl 70 (impl_lineOf.cs y) (0, 0) _ HX.out Try.underlying70 rfl (impl_lineOf.info_of YS.out) ?_)) | (at_lookup; refine impl_cycles_line.look _ rfl _ _ 86 rfl 70 4 impl_cycles_line.law Try.underlying86 Try.underlying4 (impl_cycles_line.zeroE _) b met1.length D1 rfl HM.out _ (impl_cycles_line.key y) rfl (impl_cycles_line.keyOf_mk WF2.out) true (by rw [HD.out _ WF2.out, HC2.out]) ?_) | ((with_reducible refine gate_builtin (b := .append) (xs := #[.tmp 38, .tmp 40]) rfl ?_); at_builtin; refine Kd.S_append (Kd.slice 70 impl_lineOf.kd) (w0 := w) w.heap.size rfl (.tmp 38) (.tmp 40) 65 78 (.slice none 0 0) 24 rfl Try.underlying65 impl_cycles_line.infoS rfl (by decide) (by omega) u5 out own _ (fun k_ => k_ ≠ b) (fun k_ => some k_ = (Value.slice Ao own.length co).ownBlock) rfl rfl ?aP (fun k_ hk => ⟨(HW.out.1 k_ hk.symm).1, (HW.out.1 k_ hk.symm).2.2⟩) ?aF ?aO ?aB ?aS ?aL ?_; (case aP => exact Kd.M_row (Kd.R_tight rfl HW.out)); (case aF => exact fun k_ hk => by have := HM.out.lt; omega); (case aO => exact HO.out); (case aB => exact HB.out); (case aS => exact HB.out.size); (case aL => have := HOL.out; omega); intro v41 w8 ho hb hg hat; have HO8 := Aside0.mk ho; have B8 := Aside0.mk hb; have HM8 := Aside0.mk (HM.out.kept hg (Kd.S_away HO.out (fun _ hk => hk.1))); clear ho hb hg hat))
                    go_roundw
                    case rel => exact ⟨q + 1, met1, out ++ [own], D1, by first | rfl | go_num, by omega, HG2, HM8, HD, HO8, B8⟩
                    case measure => (try simp only [e2]); exact (Nat.sub_lt_sub_left (by omega) (Nat.lt_succ_self q) : l0.length - (q + 1) < l0.length - q)
                  · rw [if_neg hc] at hA
                    split at hA
                    · rename_i hml
                      split at hA
                      · rename_i hol2
                        obtain ⟨z, hz, hA⟩ := Option.bind_eq_some_iff.mp hA
                        have HC2 := Aside0.mk (show met1.contains y = false by simpa using hc)
                        have HZ := Aside0.mk (HP.out y z hz)
                        have ZL := Aside0.mk (show (impl_lineOf.cs z).size = 10 by rw [impl_lineOf.cs_size]; exact HPL.out y z hz)
                        have HA2 := Aside0.mk hA
                        have HML := Aside0.mk hml
                        have HOL2 := Aside0.mk hol2
                        have NB := Aside0.mk (show bx ≠ b from fun e => by have h1 := HX.out; rw [e] at h1; exact impl_cycles_line.map_ne HM.out h1)
                        clear hc hA hz hml hol2
                        go_wp2_with (first | ((with_reducible refine wpList_load_row rfl 70 (.tmp 10) rfl bx rfl 70 (impl_lineOf.cs y) (0, 0) _ HX.out Try.underlying70 rfl (impl_lineOf.info_of YS.out) ?_)) | ((with_reducible refine wpList_load_row rfl 70 (.tmp 10) rfl bx rfl 70 (impl_lineOf.cs y) (0, 0) _ X6.out Try.underlying70 rfl (impl_lineOf.info_of YS.out) ?_)) | ((with_reducible refine wpList_load_row rfl 70 (.tmp 10) rfl bx rfl 70 (impl_lineOf.cs y) (0, 0) _ X7.out Try.underlying70 rfl (impl_lineOf.info_of YS.out) ?_)) | ((with_reducible refine wpList_load_row rfl 70 (.tmp 10) rfl w7.heap.size rfl 70 (impl_lineOf.cs y) (0, 0) _ X8.out Try.underlying70 rfl (impl_lineOf.info_of YS.out) ?_)) | (at_lookup; refine impl_cycles_line.look _ rfl _ _ 86 rfl 70 4 impl_cycles_line.law Try.underlying86 Try.underlying4 (impl_cycles_line.zeroE _) b met1.length D1 rfl HM.out _ (impl_cycles_line.key y) rfl (impl_cycles_line.keyOf_mk WF2.out) false (by rw [HD.out _ WF2.out, HC2.out]) ?_) | (at_mapUpdate; refine wpList_mapUpdate_own _ rfl _ _ _ 86 rfl 70 4 impl_cycles_line.law Try.underlying86 (plainElem Try.prog 4) b met1.length D1 rfl HM.out (by have := HML.out; unfold maxLen; omega) _ _ (impl_cycles_line.key y) rfl rfl (impl_cycles_line.keyOf_mk WF2.out) (.lit (.bool true)) [] (plainElem_bool Try.underlying4 true) ?_; intro w6 hm6 hg6; have HM6 := Aside0.mk hm6; have X6 := Aside0.mk (blk_grown HX.out hg6 (fun e => NB.out (Option.some.inj e))); have HO6 := Aside0.mk (Kd.S_grown HO.out hg6 (fun k_ hk => by intro e; injection e with e; exact hk.1 e)); have HW6 := Aside0.mk (Kd.R_grown HW.out hg6 (fun k_ hk => by intro e; injection e with e; exact hk.1 e)); have B6 := Aside0.mk (pw_below_grown HB.out (some b) HB.out.size hg6 (fun k_ e => by injection e with e; rw [← e]; exact GB.out)); have SZ6 := Aside0.mk (Nat.le_trans SZ.out hg6.size); clear hm6 hg6) | ((with_reducible refine impl_cycles_line.build1 rfl (.tmp 34) rfl y rfl YL.out ?_)) | ((with_reducible refine gate_builtin (b := .append) (xs := #[.tmp 33, .tmp 35]) rfl ?_); at_builtin; refine Kd.R_append impl_lineOf.kd (w0 := w) w.heap.size rfl (.tmp 33) (.tmp 35) 78 70 _ 80 rfl Try.underlying78 impl_cycles_line.infoL rfl (by decide) (by omega) u9 own y (y.map (Value.int .i64)) (fun k_ => k_ ≠ b ∧ k_ ≠ bx ∧ some k_ ≠ (u5 : Value).ownBlock) (fun _ => False) rfl rfl ?aP (fun _ hk => hk.elim) ?aF ?aO ?aB ?aS ?aL ?_; (case aP => exact ⟨YL.out, rfl⟩); (case aF => exact fun k_ hk => ⟨by have := BL.out; have := SZ6.out; omega, by have := blk_lt X6.out; omega, fun e => by have := LO.out k_ e.symm; have := SZ6.out; omega⟩); (case aO => exact HW6.out); (case aB => exact B6.out); (case aS => exact B6.out.size); (case aL => have := HOL2.out; omega); intro v36 w7 ho hb hg hat; have HW7 := Aside0.mk ho; have B7 := Aside0.mk hb; have X7 := Aside0.mk (blk_grown X6.out hg (fun e => (HW6.out.1 bx e.symm).2.1 rfl)); have HM7 := Aside0.mk (HM6.out.kept hg (fun e => (HW6.out.1 b e.symm).1 rfl)); have HO7 := Aside0.mk (Kd.S_after (v := u9) (v1 := v36) (ok := fun k_ => k_ ≠ b) HO6.out hg hat); have SZ7 := Aside0.mk (Nat.le_trans SZ6.out hg.size); clear ho hb hg hat) | ((with_reducible refine impl_cycles_line.store_new rfl 70 (.tmp 10) (.tmp 37) rfl (impl_lineOf.cs y) rfl rfl 70 _ (impl_lineOf.info_of YS.out) ?hs (impl_lineOf.cs_one y) ?_); (case hs => exact YS.out.symm); intro w8 hx8 hb hz; have X8 := Aside0.mk hx8; have BB8 := Aside0.mk hb; have Z8 := Aside0.mk hz; clear hx8 hb hz) | (go_at_fn gF; (with_reducible refine (impl_cycles_line.Fvb.calls HZ.out (below_to B7.out BB8.out)).mono ?_); rintro e w9 ⟨rfl, hb⟩; have X9 := Aside0.mk (blk_below X8.out hb); have BB9 := Aside0.mk (below_to BB8.out hb); have Z9 := Aside0.mk (Nat.lt_of_lt_of_le Z8.out hb.size); clear hb) | ((with_reducible refine impl_cycles_line.store rfl 70 (.tmp 10) (.tmp 30) rfl w7.heap.size (impl_lineOf.cs z) rfl rfl 70 (impl_lineOf.cs y) X9.out (impl_lineOf.info_of ZL.out) ?hs (impl_lineOf.cs_one z) ?_); (case hs => exact YS.out.trans ZL.out.symm); intro w10 hx10 hg10; have X10 := Aside0.mk hx10; have BB10 := Aside0.mk (pw_below_grown BB9.out (some w7.heap.size) BB9.out.size hg10 (fun k_ e => by injection e with e; omega)); clear hx10 hg10))
                        go_roundg k1
                        case measure => have := HK1.out; omega
                        case rel => exact ⟨met1 ++ [y], own ++ [y], z, _, w7.heap.size, rfl, HA2, ⟨by have := HK1.out; omega⟩, X10, ⟨by rw [List.length_append]; exact HM7.out.kept (grown_of_below BB10.out none) (by simp)⟩, ⟨impl_cycles_line.put_at WF2.out HM.out.isMap HD.out⟩, ⟨Kd.S_below HO7.out BB10.out⟩, ⟨Kd.R_below (Kd.R_mono (Kd.R_bound HW7.out) (fun k hk => ⟨hk.1.1, by have := hk.2.2.1; omega, hk.1.2.2⟩)) BB10.out⟩, ⟨Nat.le_trans SZ7.out BB10.out.size⟩, ⟨below_to B7.out BB10.out⟩⟩
                      · cases hA
                    · cases hA
                · cases hA
          · cases hG
      · cases hG
    · have e1 : r = out := by
        have := HG.out
        rw [List.drop_of_length_le (by omega), impl_cycles_line.go] at this
        exact (Option.some.inj this).symm
      subst e1
      go_wp2
      go_ret
      exact ⟨_, rfl, Kd.S_mono HO.out (fun _ _ => trivial), HB.out⟩
def impl_Poset_exchange.f (l0 x : List Int) (j : Nat) : Option (List Int) :=
  if x.length = 10 ∧ j + 1 < 10 ∧ 0 ≤ rd x (j : Int) ∧ rd x (j : Int) < (l0.length : Int) ∧ 0 ≤ rd x ((j + 1 : Nat) : Int) ∧ rd x ((j + 1 : Nat) : Int) < (l0.length : Int) then
    (impl_has.f (rd l0 (rd x (j : Int))) (rd x ((j + 1 : Nat) : Int))).bind fun h1 => if h1 = true then some x else (impl_has.f (rd l0 (rd x ((j + 1 : Nat) : Int))) (rd x (j : Int))).bind fun h2 => if h2 = true then some x else some ((x.set j (rd x ((j + 1 : Nat) : Int))).set (j + 1) (rd x (j : Int)))
  else none
theorem impl_Poset_exchange.cs_get {x : List Int} {j : Nat} (h : j < x.length) : (impl_lineOf.cs x)[j]? = some (.int .i64 (rd x (j : Int))) := by
  simp [impl_lineOf.cs, rd, List.getD_eq_getElem?_getD, h]
theorem impl_Poset_exchange.cs_set {x : List Int} {j : Nat} {v : Int} : (impl_lineOf.cs x).setIfInBounds j (.int .i64 v) = impl_lineOf.cs (x.set j v) := by
  simp [impl_lineOf.cs, List.map_set]
open Go.Proofs.Ytldbabadbggleaa.X in
set_option maxHeartbeats 1600000 in
set_option maxRecDepth 100000 in
theorem impl_Poset_exchange.calls (A0 : Option Addr) (c0 : Nat) (l0 x : List Int) (j : Nat) (r : List Int) (w : World) (hr0 : Kd.C (Kd.int .i64) w A0 l0.length l0) (h : impl_Poset_exchange.f l0 x j = some r) :
    Calls Try.prog 90 #[.agg #[.slice A0 l0.length c0], .agg (impl_lineOf.cs x), .int .i64 (j : Int)] w fun e w' => e = .returned (.agg (impl_lineOf.cs r)) ∧ r.length = 10 ∧ Below w.heap.size w w' := by
  unfold impl_Poset_exchange.f at h
  split at h
  · rename_i hc
    obtain ⟨hx, hj, a0, a1, b0, b1⟩ := hc
    obtain ⟨h1, hh1, h⟩ := Option.bind_eq_some_iff.mp h
    have HR := Aside0.mk hr0
    have HX := Aside0.mk hx
    have L0 := Aside0.mk (show (impl_lineOf.cs x).size = 10 by rw [impl_lineOf.cs_size]; exact hx)
    obtain ⟨a, ha⟩ : ∃ a, a = rd x (j : Int) := ⟨_, rfl⟩
    obtain ⟨b, hb⟩ : ∃ b, b = rd x ((j + 1 : Nat) : Int) := ⟨_, rfl⟩
    have ga := Aside0.mk (show (impl_lineOf.cs x)[j]? = some (.int .i64 a) by rw [ha]; exact impl_Poset_exchange.cs_get (by omega))
    have gb := Aside0.mk (show (impl_lineOf.cs x)[j + 1]? = some (.int .i64 b) by rw [hb]; exact impl_Poset_exchange.cs_get (by omega))
    rw [← ha] at a0 a1
    rw [← hb] at b0 b1
    rw [← ha, ← hb] at hh1 h
    have HH1 := Aside0.mk hh1
    have HF := Aside0.mk h
    clear ha hb
    have hu := Try.underlying29
    clear hr0 hx hh1 h
    go_enter Try.func90, Try.ntmps90
    go_wp2_with fail
    obtain ⟨Z, hZ⟩ : ∃ Z : Array Value, Z = #[Value.int IntKind.i64 0, Value.int IntKind.i64 0, Value.int IntKind.i64 0, Value.int IntKind.i64 0, Value.int IntKind.i64 0, Value.int IntKind.i64 0, Value.int IntKind.i64 0, Value.int IntKind.i64 0, Value.int IntKind.i64 0, Value.int IntKind.i64 0] := ⟨_, rfl⟩
    rw [← hZ]
    obtain ⟨W, hW⟩ : ∃ W, W = ((w.alloc (.cells #[.slice A0 l0.length c0] 29)).alloc (.cells (impl_lineOf.cs x) 70)).alloc (.cells Z 70) := ⟨_, rfl⟩
    rw [← hW]
    have BW := Aside0.mk (show Below w.heap.size w W by rw [hW]; exact below_alloc (below_alloc (below_alloc (Below.refl _ _) _) _) _)
    have G3 := Aside0.mk (show W.heap[w.heap.size]? = some (.cells #[.slice A0 l0.length c0] 29 (0, 0)) by rw [hW]; exact blk_alloc (blk_alloc (blk_new _ _) _) _)
    have G4 := Aside0.mk (show W.heap[w.heap.size + 1]? = some (.cells (impl_lineOf.cs x) 70 (0, 0)) by rw [hW]; exact blk_alloc (heap_alloc2_new _ _ _) _)
    have G6 := Aside0.mk (show W.heap[w.heap.size + 1 + 1]? = some (.cells Z 70 (0, 0)) by rw [hW]; have := blk_new ((w.alloc (.cells #[.slice A0 l0.length c0] 29)).alloc (.cells (impl_lineOf.cs x) 70)) (.cells Z 70); simpa using this)
    have ZS := Aside0.mk (show Z.size = 10 by rw [hZ]; rfl)
    clear hW hZ
    have z3 := blk_cell G3.out 0
    have z4a := (blk_cell G4.out j).trans ga.out
    have z4b := (blk_cell G4.out (j + 1)).trans gb.out
    obtain ⟨ad, e1, xa⟩ := Kd.at_int (Kd.C_below HR.out BW.out) a a0 a1
    obtain ⟨ad', e2, xb⟩ := Kd.at_int (Kd.C_below HR.out BW.out) b b0 b1
    cases e1
    cases e2
    go_quiet (fail)
    obtain ⟨W1, hW1⟩ : ∃ W1, W1 = W.drewN nq := ⟨_, rfl⟩
    rw [← hW1]
    have B1 := Aside0.mk (show Below w.heap.size w W1 by rw [hW1]; exact pw_below_drewN BW.out _)
    have K3 := Aside0.mk (show W1.heap[w.heap.size]? = some (.cells #[.slice (some ad) l0.length c0] 29 (0, 0)) by rw [hW1]; exact blk_drewN G3.out _)
    have K4 := Aside0.mk (show W1.heap[w.heap.size + 1]? = some (.cells (impl_lineOf.cs x) 70 (0, 0)) by rw [hW1]; exact blk_drewN G4.out _)
    have K6 := Aside0.mk (show W1.heap[w.heap.size + 1 + 1]? = some (.cells Z 70 (0, 0)) by rw [hW1]; exact blk_drewN G6.out _)
    have xa1 : W1.cell? (ad.add a.toNat) = some (.int .i64 (rd l0 a)) := by rw [hW1]; exact xa
    have xb1 : W1.cell? (ad.add b.toNat) = some (.int .i64 (rd l0 b)) := by rw [hW1]; exact xb
    clear hW1 xa xb z3 z4a z4b G3 G4 G6 BW
    have z3 := blk_cell K3.out 0
    have f4a := blk_frozen K4.out j
    have f4b := blk_frozen K4.out (j + 1)
    have z4a := (blk_cell K4.out j).trans ga.out
    have z4b := (blk_cell K4.out (j + 1)).trans gb.out
    have h := HF.out
    by_cases q1 : h1 = true
    · subst q1
      rw [if_pos rfl] at h
      cases h
      have OL := Aside0.mk (show Z.size = (impl_lineOf.cs x).size by rw [ZS.out, L0.out])
      clear HF
      go_wp2_with (first | (go_at_call 70; refine (impl_has.calls _ _ true _ HH1.out).mono ?_; rintro e w' ⟨rfl, ⟨nd1, rfl⟩⟩) | (with_reducible refine wpList_load_row rfl 70 (.tmp 4) rfl (w.heap.size + 1) rfl 70 (impl_lineOf.cs x) (0, 0) _ (blk_drewN K4.out _) Try.underlying70 rfl (impl_lineOf.info_of L0.out) ?_) | (with_reducible refine wpList_store_row rfl 70 (.tmp 6) (.tmp 41) rfl (w.heap.size + 1 + 1) (impl_lineOf.cs x) rfl rfl 70 Z (blk_drewN K6.out _) (impl_lineOf.info_of L0.out) OL.out (impl_lineOf.cs_one x) ?_))
      refine bodyPost_ret (v := .agg (impl_lineOf.cs x)) (results_cell_row rfl _ _ (w.heap.size + 1 + 1) 70 (impl_lineOf.cs x) (0, 0) _ rfl (setRow_heap _ _ Z _ _ _ (blk_drewN K6.out _)) Try.underlying70 rfl (impl_lineOf.info_of L0.out)) rfl ⟨rfl, HX.out, ?_⟩
      exact below_setRow (pw_below_drewN B1.out _) (by omega) _
    · rw [if_neg q1] at h
      obtain ⟨h2, hh2, h⟩ := Option.bind_eq_some_iff.mp h
      have HH2 := Aside0.mk hh2
      have q1 : h1 = false := by simpa using q1
      subst q1
      clear hh2
      by_cases q2 : h2 = true
      · subst q2
        rw [if_pos rfl] at h
        cases h
        have OL := Aside0.mk (show Z.size = (impl_lineOf.cs x).size by rw [ZS.out, L0.out])
        clear HF
        go_wp2_with (first | (go_at_call 70; refine (impl_has.calls _ _ false _ HH1.out).mono ?_; rintro e w' ⟨rfl, ⟨nd1, rfl⟩⟩) | (go_at_call 70; refine (impl_has.calls _ _ true _ HH2.out).mono ?_; rintro e w' ⟨rfl, ⟨nd2, rfl⟩⟩) | (with_reducible refine wpList_load_row rfl 70 (.tmp 4) rfl (w.heap.size + 1) rfl 70 (impl_lineOf.cs x) (0, 0) _ (blk_drewN K4.out _) Try.underlying70 rfl (impl_lineOf.info_of L0.out) ?_) | (with_reducible refine wpList_store_row rfl 70 (.tmp 6) (.tmp 41) rfl (w.heap.size + 1 + 1) (impl_lineOf.cs x) rfl rfl 70 Z (blk_drewN K6.out _) (impl_lineOf.info_of L0.out) OL.out (impl_lineOf.cs_one x) ?_))
        refine bodyPost_ret (v := .agg (impl_lineOf.cs x)) (results_cell_row rfl _ _ (w.heap.size + 1 + 1) 70 (impl_lineOf.cs x) (0, 0) _ rfl (setRow_heap _ _ Z _ _ _ (blk_drewN K6.out _)) Try.underlying70 rfl (impl_lineOf.info_of L0.out)) rfl ⟨rfl, HX.out, ?_⟩
        exact below_setRow (pw_below_drewN B1.out _) (by omega) _
      · have q2 : h2 = false := by simpa using q2
        subst q2
        rw [if_neg (by decide)] at h
        have HE := Aside0.mk (Option.some.inj h)
        clear h
        have XR := Aside0.mk (show r.length = 10 by rw [← HE.out]; simp [HX.out])
        have LR := Aside0.mk (show (impl_lineOf.cs r).size = 10 by rw [impl_lineOf.cs_size]; exact XR.out)
        have OL := Aside0.mk (show Z.size = (impl_lineOf.cs r).size by rw [ZS.out, LR.out])
        have KR := Aside0.mk (fun n : Nat => show (((W1.drewN n).setCell ⟨w.heap.size + 1, j, none⟩ (.int .i64 b)).setCell ⟨w.heap.size + 1, j + 1, none⟩ (.int .i64 a)).heap[w.heap.size + 1]? = some (.cells (impl_lineOf.cs r) 70 (0, 0)) by have := blk_set (blk_set (blk_drewN K4.out n) j (.int .i64 b)) (j + 1) (.int .i64 a); rw [impl_Poset_exchange.cs_set, impl_Poset_exchange.cs_set, HE.out] at this; exact this)
        have KS := Aside0.mk (fun n : Nat => show (((W1.drewN n).setCell ⟨w.heap.size + 1, j, none⟩ (.int .i64 b)).setCell ⟨w.heap.size + 1, j + 1, none⟩ (.int .i64 a)).heap[w.heap.size + 1 + 1]? = some (.cells Z 70 (0, 0)) from blk_far (blk_far (blk_drewN K6.out n) (show w.heap.size + 1 + 1 ≠ w.heap.size + 1 by omega) _) (show w.heap.size + 1 + 1 ≠ w.heap.size + 1 by omega) _)
        have BR := Aside0.mk (fun n : Nat => show Below w.heap.size w (((W1.drewN n).setCell ⟨w.heap.size + 1, j, none⟩ (.int .i64 b)).setCell ⟨w.heap.size + 1, j + 1, none⟩ (.int .i64 a)) from below_set (below_set (pw_below_drewN B1.out n) (by show w.heap.size ≤ w.heap.size + 1; omega)) (by show w.heap.size ≤ w.heap.size + 1; omega))
        clear HF
        go_wp2_with (first | (go_at_call 70; refine (impl_has.calls _ _ false _ HH1.out).mono ?_; rintro e w' ⟨rfl, ⟨nd1, rfl⟩⟩) | (go_at_call 70; refine (impl_has.calls _ _ false _ HH2.out).mono ?_; rintro e w' ⟨rfl, ⟨nd2, rfl⟩⟩) | (with_reducible refine wpList_load_row rfl 70 (.tmp 4) rfl (w.heap.size + 1) rfl 70 (impl_lineOf.cs r) (0, 0) _ (KR.out _) Try.underlying70 rfl (impl_lineOf.info_of LR.out) ?_) | (with_reducible refine wpList_store_row rfl 70 (.tmp 6) (.tmp 41) rfl (w.heap.size + 1 + 1) (impl_lineOf.cs r) rfl rfl 70 Z (KS.out _) (impl_lineOf.info_of LR.out) OL.out (impl_lineOf.cs_one r) ?_))
        refine bodyPost_ret (v := .agg (impl_lineOf.cs r)) (results_cell_row rfl _ _ (w.heap.size + 1 + 1) 70 (impl_lineOf.cs r) (0, 0) _ rfl (setRow_heap _ _ Z _ _ _ (KS.out _)) Try.underlying70 rfl (impl_lineOf.info_of LR.out)) rfl ⟨rfl, XR.out, ?_⟩
        exact below_setRow (BR.out _) (by omega) _
  · cases h
def impl_Poset_promoted.go (l0 : List Int) : Nat → Nat → List Int → Option (List Int)
  | 0, _, x => some x
  | d + 1, j, x => (impl_Poset_exchange.f l0 x j).bind fun y => impl_Poset_promoted.go l0 d (j + 1) y
def impl_Poset_promoted.f (l0 x : List Int) : Option (List Int) := if l0.length ≤ 10 ∧ x.length = 10 then impl_Poset_promoted.go l0 (l0.length - 1) 0 x else none
open Go.Proofs.Ytldbabadbggleaa.X in
set_option maxHeartbeats 1600000 in
set_option maxRecDepth 100000 in
theorem impl_Poset_promoted.calls (A0 : Option Addr) (c0 : Nat) (l0 x : List Int) (r : List Int) (w : World) (hr0 : Kd.C (Kd.int .i64) w A0 l0.length l0) (hc0 : l0.length ≤ c0) (h : impl_Poset_promoted.f l0 x = some r) :
    Calls Try.prog 82 #[.agg #[.slice A0 l0.length c0], .agg (impl_lineOf.cs x)] w fun e w' => e = .returned (.agg (impl_lineOf.cs r)) ∧ r.length = 10 ∧ Below w.heap.size w w' := by
  unfold impl_Poset_promoted.f at h
  split at h
  · rename_i hc
    obtain ⟨hl, hx⟩ := hc
    have HR := Aside0.mk hr0
    have HC := Aside0.mk hc0
    have HX := Aside0.mk hx
    have L0 := Aside0.mk (show (impl_lineOf.cs x).size = 10 by rw [impl_lineOf.cs_size]; exact hx)
    have HF := Aside0.mk h
    have hu := Try.underlying29
    clear hr0 hx h hc0
    go_enter Try.func82, Try.ntmps82
    obtain ⟨Z, hZ⟩ : ∃ Z : Array Value, Z = #[Value.int IntKind.i64 0, Value.int IntKind.i64 0, Value.int IntKind.i64 0, Value.int IntKind.i64 0, Value.int IntKind.i64 0, Value.int IntKind.i64 0, Value.int IntKind.i64 0, Value.int IntKind.i64 0, Value.int IntKind.i64 0, Value.int IntKind.i64 0] := ⟨_, rfl⟩
    have HZ := Aside0.mk hZ
    have ZS := Aside0.mk (show Z.size = 10 by rw [hZ]; rfl)
    clear hZ
    go_wp2_with (first | (go_at_call 32; refine (impl_Poset_n.calls A0 c0 l0 _ _ (Kd.C_below HR.out (below_alloc (below_alloc (below_alloc (Below.refl _ _) _) _) _)) HC.out rfl).mono ?_; rintro e w1 ⟨rfl, hb⟩; rw [← HZ.out] at hb; have BW := Aside0.mk (below_to (below_alloc (below_alloc (below_alloc (Below.refl w.heap.size w) (.cells #[.slice A0 l0.length c0] 29)) (.cells (impl_lineOf.cs x) 70)) (.cells Z 70)) hb); have G2 := Aside0.mk (show w1.heap[w.heap.size]? = some (.cells #[.slice A0 l0.length c0] 29 (0, 0)) from blk_below (blk_alloc (blk_alloc (blk_new _ _) _) _) hb); have G3 := Aside0.mk (show w1.heap[w.heap.size + 1]? = some (.cells (impl_lineOf.cs x) 70 (0, 0)) from blk_below (blk_alloc (heap_alloc2_new _ _ _) _) hb); have G4 := Aside0.mk (show w1.heap[w.heap.size + 1 + 1]? = some (.cells Z 70 (0, 0)) from blk_below (by have := blk_new ((w.alloc (.cells #[.slice A0 l0.length c0] 29)).alloc (.cells (impl_lineOf.cs x) 70)) (.cells Z 70); simpa using this) hb); clear hb))
    go_loopw [9] (fun v9 wr => ∃ (j : Nat) (y : List Int), v9 = .int .i64 (j : Int) ∧ j ≤ l0.length - 1 ∧ Aside0 (impl_Poset_promoted.go l0 (l0.length - 1 - j) j y = some r) ∧ Aside0 (y.length = 10) ∧ Aside0 (wr.heap[w.heap.size]? = some (.cells #[.slice A0 l0.length c0] 29 (0, 0))) ∧ Aside0 (wr.heap[w.heap.size + 1]? = some (.cells (impl_lineOf.cs y) 70 (0, 0))) ∧ Aside0 (wr.heap[w.heap.size + 1 + 1]? = some (.cells Z 70 (0, 0))) ∧ Aside0 (Below w.heap.size w wr)) (fun v9 _ => (l0.length - 1) - (intOf v9).toNat)
    case atStart => exact ⟨0, x, rfl, Nat.zero_le _, HF, HX, G2, G3, G4, BW⟩
    case round =>
      clear HF HX G2 G3 G4 BW L0
      obtain ⟨j, y, rfl, hj, HG, HY, G2, G3, G4, HB⟩ := hrel
      have YS := Aside0.mk (show (impl_lineOf.cs y).size = 10 by rw [impl_lineOf.cs_size]; exact HY.out)
      have z2 := blk_cell G2.out 0
      by_cases hlt : j < l0.length - 1
      · have hG := HG.out
        obtain ⟨d, hd⟩ : ∃ d, l0.length - 1 - j = d + 1 := ⟨l0.length - 1 - j - 1, by omega⟩
        rw [hd, impl_Poset_promoted.go] at hG
        obtain ⟨y1, hy1, hG⟩ := Option.bind_eq_some_iff.mp hG
        have HY1 := Aside0.mk hy1
        have HG1 := Aside0.mk (show impl_Poset_promoted.go l0 (l0.length - 1 - (j + 1)) (j + 1) y1 = some r by rw [show l0.length - 1 - (j + 1) = d by omega]; exact hG)
        clear hy1 hG hd HG
        have q1 : (j : Int) < (l0.length : Int) - 1 := by omega
        go_wp2_with (first | (with_reducible refine wpList_load_row rfl 70 (.tmp 3) rfl (w.heap.size + 1) rfl 70 (impl_lineOf.cs y) (0, 0) _ G3.out Try.underlying70 rfl (impl_lineOf.info_of YS.out) ?_) | (go_at_call 90; refine (impl_Poset_exchange.calls A0 c0 l0 y j y1 _ (Kd.C_below HR.out HB.out) HY1.out).mono ?_; rintro e w2 ⟨rfl, hy, hb⟩; have HY2 := Aside0.mk hy; have B2 := Aside0.mk (below_to HB.out hb); have YS2 := Aside0.mk (show (impl_lineOf.cs y1).size = 10 by rw [impl_lineOf.cs_size]; exact hy); have OL := Aside0.mk (show (impl_lineOf.cs y).size = (impl_lineOf.cs y1).size by rw [YS.out, YS2.out]); have K2 := Aside0.mk (blk_below G2.out hb); have K3 := Aside0.mk (blk_below G3.out hb); have K4 := Aside0.mk (blk_below G4.out hb); clear hy hb) | (with_reducible refine wpList_store_row rfl 70 (.tmp 3) (.tmp 15) rfl (w.heap.size + 1) (impl_lineOf.cs y1) rfl rfl 70 (impl_lineOf.cs y) K3.out (impl_lineOf.info_of YS2.out) OL.out (impl_lineOf.cs_one y1) ?_))
        go_roundw
        case rel => exact ⟨j + 1, y1, by go_num, by omega, HG1, HY2, ⟨(setRow_other _ _ _ _ (by omega)).trans K2.out⟩, ⟨setRow_heap _ _ _ _ _ _ K3.out⟩, ⟨(setRow_other _ _ _ _ (by omega)).trans K4.out⟩, ⟨below_setRow B2.out (by omega) _⟩⟩
        case measure => simp [intOf]; omega
      · have hG := HG.out
        rw [show l0.length - 1 - j = 0 by omega, impl_Poset_promoted.go] at hG
        have hE := Option.some.inj hG
        subst hE
        clear hG
        have q1 : ¬ ((j : Int) < (l0.length : Int) - 1) := by omega
        have OL := Aside0.mk (show Z.size = (impl_lineOf.cs y).size by rw [ZS.out, YS.out])
        clear HG
        go_wp2_with (first | (with_reducible refine wpList_load_row rfl 70 (.tmp 3) rfl (w.heap.size + 1) rfl 70 (impl_lineOf.cs y) (0, 0) _ G3.out Try.underlying70 rfl (impl_lineOf.info_of YS.out) ?_) | (with_reducible refine wpList_store_row rfl 70 (.tmp 4) (.tmp 17) rfl (w.heap.size + 1 + 1) (impl_lineOf.cs y) rfl rfl 70 Z G4.out (impl_lineOf.info_of YS.out) OL.out (impl_lineOf.cs_one y) ?_))
        refine bodyPost_ret (v := .agg (impl_lineOf.cs y)) (results_cell_row rfl _ _ (w.heap.size + 1 + 1) 70 (impl_lineOf.cs y) (0, 0) _ rfl (setRow_heap _ _ Z _ _ _ G4.out) Try.underlying70 rfl (impl_lineOf.info_of YS.out)) rfl ⟨rfl, HY.out, ?_⟩
        exact below_setRow HB.out (by omega) _
  · cases h
theorem impl_Poset_exchange.len {l0 x : List Int} {j : Nat} {y : List Int} (h : impl_Poset_exchange.f l0 x j = some y) : y.length = 10 := by
  unfold impl_Poset_exchange.f at h
  split at h
  · rename_i hc
    obtain ⟨h1, _, h⟩ := Option.bind_eq_some_iff.mp h
    split at h
    · cases h; exact hc.1
    · obtain ⟨h2, _, h⟩ := Option.bind_eq_some_iff.mp h
      split at h
      · cases h; exact hc.1
      · cases h; simp [hc.1]
  · cases h
theorem impl_Poset_promoted.go_len {l0 : List Int} : ∀ (d j : Nat) (x y : List Int), x.length = 10 → impl_Poset_promoted.go l0 d j x = some y → y.length = 10
  | 0, _, x, y, hx, h => by rw [impl_Poset_promoted.go] at h; cases h; exact hx
  | d + 1, j, x, y, hx, h => by
    rw [impl_Poset_promoted.go] at h
    obtain ⟨z, hz, h⟩ := Option.bind_eq_some_iff.mp h
    exact impl_Poset_promoted.go_len d (j + 1) z y (impl_Poset_exchange.len hz) h
theorem impl_Poset_promoted.len {l0 x y : List Int} (h : impl_Poset_promoted.f l0 x = some y) : y.length = 10 := by
  unfold impl_Poset_promoted.f at h
  split at h
  · rename_i hc
    exact impl_Poset_promoted.go_len _ _ _ _ hc.2 h
  · cases h
def impl_linearCycles.lines : List (List Int) → List (List Int) → Option (List (List Int))
  | [], acc => some acc
  | w :: ws, acc => (impl_lineOf.f w).bind fun x => impl_linearCycles.lines ws (acc ++ [x])
def impl_linearCycles.f (k : Nat) (l0 : List Int) : Option (List (List (List Int)) × Bool) := (impl_few.f k l0).bind fun p => if p.2 = true then (if p.1.length < 1759218604441 then (impl_linearCycles.lines p.1 []).bind fun ls => if ls.length ≤ p.1.length then (impl_cycles_line.f k (impl_Poset_promoted.f l0) ls).bind fun c => some (c, true) else none else none) else some ([], false)
theorem impl_linearCycles.mono : ∀ a0 k, LeO (impl_linearCycles.f k a0) (impl_linearCycles.f (k + 1) a0) := by
  intro l0 k
  unfold impl_linearCycles.f
  exact LeO.bind (impl_few.mono _ _) fun p => LeO.ite (LeO.ite (LeO.bind (LeO.refl _) fun ls => LeO.ite (LeO.bind (impl_cycles_line.mono (fun x => LeO.refl _) k ls) fun c => LeO.refl _) (LeO.refl _)) (LeO.refl _)) (LeO.refl _)
theorem impl_linearCycles.lit (A0 : Option Addr) (c0 : Nat) (l0 : List Int) (x y : List Int) (w : World) (hr0 : Kd.C (Kd.int .i64) w A0 l0.length l0) (hc0 : l0.length ≤ c0) (h : impl_Poset_promoted.f l0 x = some y) :
    impl_cycles_line.Fvb Try.prog 82 #[.agg #[.slice A0 l0.length c0]] #[] (.agg (impl_lineOf.cs x)) (.agg (impl_lineOf.cs y)) w := by
  intro W hb
  show Calls Try.prog 82 #[.agg #[.slice A0 l0.length c0], .agg (impl_lineOf.cs x)] W _
  exact (impl_Poset_promoted.calls A0 c0 l0 x y W (Kd.C_below hr0 hb) hc0 h).mono fun e w' h => ⟨h.1, h.2.2⟩
open Go.Proofs.Ytldbabadbggleaa.X in
set_option maxHeartbeats 1600000 in
set_option maxRecDepth 100000 in
theorem impl_linearCycles.calls (k : Nat) (A0 : Option Addr) (c0 : Nat) (l0 : List Int) (r1 : List (List (List Int))) (r2 : Bool) (w : World) (hr0 : Kd.C (Kd.int .i64) w A0 l0.length l0) (hc0 : l0.length ≤ c0) (h : impl_linearCycles.f k l0 = some (r1, r2)) :
    Calls Try.prog 62 #[.agg #[.slice A0 l0.length c0]] w fun e w' => ∃ v0_ : Value, e = .returned (.tuple #[v0_, .bool r2]) ∧ Kd.S (Kd.slice 70 impl_lineOf.kd) 78 w' w.heap.size (fun _ => True) v0_ r1 ∧ Below w.heap.size w w' := by
  unfold impl_linearCycles.f at h
  obtain ⟨⟨ws, b⟩, hfew, h⟩ := Option.bind_eq_some_iff.mp h
  have HR := Aside0.mk hr0
  have HC := Aside0.mk hc0
  have HW := Aside0.mk hfew
  have hu := Try.underlying29
  clear hr0 hc0 hfew
  dsimp only at h
  by_cases hb : b = true
  · rw [if_pos hb] at h
    subst hb
    split at h
    · rename_i hwl
      obtain ⟨ls, hls, h⟩ := Option.bind_eq_some_iff.mp h
      split at h
      · rename_i hll
        obtain ⟨c, hcy, h⟩ := Option.bind_eq_some_iff.mp h
        simp only [Option.some.injEq, Prod.mk.injEq] at h
        obtain ⟨rfl, rfl⟩ := h
        have HLS := Aside0.mk hls
        have HWL := Aside0.mk hwl
        have HLL := Aside0.mk hll
        have HCY := Aside0.mk hcy
        clear hls hwl hll hcy
        go_enter Try.func62, Try.ntmps62
        go_wp2_with (first | (go_at_call 57; refine (impl_few.calls k _ _ l0 ws true _ (Kd.C_below HR.out (below_alloc (Below.refl _ _) _)) HC.out HW.out).mono ?_; rintro e w1 ⟨vw, rfl, hs, hb⟩; obtain ⟨Aw, cw, rfl, hwc, hCw⟩ := Kd.R_reads (Kd.S_R hs); have CW := Aside0.mk hCw; have B1 := Aside0.mk (below_to (below_alloc (Below.refl w.heap.size w) (.cells #[.slice A0 l0.length c0] 29)) hb); have z1 : w1.cell? ⟨w.heap.size, 0, none⟩ = some (.slice A0 l0.length c0) := pw_cell_below hb (by simp); have Z1 := Aside0.mk z1; clear hs hwc hCw hb z1) | ((with_reducible refine gate_dst (N := 16) rfl ?_); refine Kd.R_lit impl_lineOf.kd (w0 := w1) w1.heap.size 70 ?hg (N := 16) ?hd (xs := ([] : List (List Int))) (inner := []) (ok := fun _ => True) (okp := fun _ => True) ?hr ?hp (fun _ hk => hk) trivial (Below.refl _ _) (Nat.le_refl _) (by simp) ?_; (case hd => rfl); (case hg => rfl); (case hr => first | (go_simp; done) | (go_simp; rfl)); (case hp => exact (Reps.none _ _)); intro v16 w2 ho hb hg_ hnew_; have HO := Aside0.mk ho; have HB := Aside0.mk hb; clear ho hb hg_ hnew_))
        go_loopw [6, 19] (fun v6 v19 wr => ∃ (q : Nat) (acc : List (List Int)), v19 = .int .i64 (q : Int) ∧ q ≤ ws.length ∧ Aside0 (impl_linearCycles.lines (ws.drop q) acc = some ls) ∧ Aside0 (acc.length ≤ q) ∧ Aside0 (Kd.R impl_lineOf.kd 70 wr w1.heap.size (fun _ => True) v6 acc) ∧ Aside0 (Below w1.heap.size w1 wr)) (fun _ v19 _ => ws.length - (intOf v19).toNat)
        case atStart => exact ⟨0, [], rfl, Nat.zero_le _, ⟨by rw [List.drop_zero]; exact HLS.out⟩, ⟨Nat.le_refl _⟩, HO, HB⟩
        case round =>
          clear HO HB HLS
          obtain ⟨q, acc, rfl, hq, HG, HA, HO, HB2⟩ := hrel
          have HB := Aside0.mk (below_to B1.out HB2.out)
          have e2 : wrap64 ((q : Int) + 1) = ((q + 1 : Nat) : Int) := by have := HWL.out; unfold wrap64; omega
          have CW3 := Aside0.mk (Kd.C_below CW.out HB2.out)
          have z3 : wr.cell? ⟨w.heap.size, 0, none⟩ = some (.slice A0 l0.length c0) := (HB2.out.cell (World.block_lt_of_cell? w1 _ Z1.out)).trans Z1.out
          by_cases hlt : q < ws.length
          · have hG := HG.out
            rw [List.drop_eq_getElem_cons hlt, impl_linearCycles.lines] at hG
            obtain ⟨x, hx, hG⟩ := Option.bind_eq_some_iff.mp hG
            obtain ⟨ad, A1, c1, e1, hcell, hlc, hC1⟩ := row_at CW3.out q hlt
            cases e1
            have e3 : ws.getD q [] = ws[q] := by simp [List.getD_eq_getElem?_getD, hlt]
            rw [e3] at hcell hC1
            have HG2 := Aside0.mk hG
            have HX := Aside0.mk hx
            have C1 := Aside0.mk hC1
            have HLT := Aside0.mk hlt
            have GL := Aside0.mk (show (ws[q] : List Int) = ws[q] from rfl)
            obtain ⟨row, hrow⟩ : ∃ row, row = ws[q] := ⟨_, rfl⟩
            rw [← hrow] at hcell HX C1
            clear hG hx hC1 hlc e3 hrow GL
            have p1 : 0 ≤ ((q : Nat) : Int) := by omega
            have q1 : ((q : Nat) : Int) < (ws.length : Int) := by omega
            go_wp2_with (first | (go_at_call 80; refine (impl_lineOf.calls A1 c1 row x _ C1.out HX.out).mono ?_; rintro e w4 ⟨rfl, hxl, hb⟩; have XL := Aside0.mk hxl; have B4 := Aside0.mk (below_to HB.out hb); have B42 := Aside0.mk (below_to HB2.out hb); have HO4 := Aside0.mk (Kd.R_below HO.out hb); clear hxl hb) | ((with_reducible refine impl_cycles_line.build1 rfl (.tmp 25) rfl x rfl XL.out ?_)) | ((with_reducible refine gate_builtin (b := .append) (xs := #[.tmp 23, .tmp 26]) rfl ?_); at_builtin; refine Kd.R_append impl_lineOf.kd (w0 := w1) w1.heap.size rfl (.tmp 23) (.tmp 26) 78 70 _ 80 rfl Try.underlying78 impl_cycles_line.infoL rfl (by decide) (by omega) u6 acc x (x.map (Value.int .i64)) (fun _ => True) (fun _ => False) rfl rfl ?aP (fun _ hk => hk.elim) ?aF ?aO ?aB ?aS ?aL ?_; (case aP => exact ⟨XL.out, rfl⟩); (case aF => exact fun _ _ => trivial); (case aO => exact HO4.out); (case aB => exact B42.out); (case aS => exact B42.out.size); (case aL => have := HA.out; have := HWL.out; have := HLT.out; omega); intro v27 w5 ho hb hg hat; have HO5 := Aside0.mk ho; have B5 := Aside0.mk hb; clear ho hb hg hat))
            go_roundw
            case rel => exact ⟨q + 1, acc ++ [x], by first | rfl | go_num, by have := HLT.out; omega, HG2, ⟨by have := HA.out; rw [List.length_append]; simp; omega⟩, HO5, B5⟩
            case measure => (try simp only [e2]); have := HLT.out; exact (Nat.sub_lt_sub_left (by omega) (Nat.lt_succ_self q) : ws.length - (q + 1) < ws.length - q)
          · have hG := HG.out
            rw [List.drop_of_length_le (by omega), impl_linearCycles.lines] at hG
            cases hG
            obtain ⟨Al, cl, eu, hlc, hCl⟩ := Kd.R_reads HO.out
            subst eu
            have CL := Aside0.mk hCl
            clear hlc hCl
            go_wp2_with (first | (go_at_call 81; refine (impl_cycles_line.calls k Al cl ls 82 #[.agg #[.slice A0 l0.length c0]] #[] (impl_Poset_promoted.f l0) c _ (enters_ Try.func82 (by kernel_rfl) rfl) CL.out (by have := HLL.out; have := HWL.out; omega) (fun x y h => impl_Poset_promoted.len h) (fun x y h => impl_linearCycles.lit A0 c0 l0 x y _ (Kd.C_below HR.out HB.out) HC.out h) HCY.out).mono ?_; rintro e w6 ⟨v6, rfl, hs, hb⟩; have HS := Aside0.mk (Kd.S_lower hs HB.out.size); have B6 := Aside0.mk (below_to HB.out hb); clear hs hb))
            go_ret2
            exact ⟨_, rfl, HS.out, B6.out⟩
      · cases h
    · cases h
  · rw [if_neg hb] at h
    have hb : b = false := by simpa using hb
    subst hb
    simp only [Option.some.injEq, Prod.mk.injEq] at h
    obtain ⟨rfl, rfl⟩ := h
    go_enter Try.func62, Try.ntmps62
    go_wp2_with (first | (go_at_call 57; refine (impl_few.calls k _ _ l0 ws false _ (Kd.C_below HR.out (below_alloc (Below.refl _ _) _)) HC.out HW.out).mono ?_; rintro e w1 ⟨vw, rfl, hs, hb⟩; have B1 := Aside0.mk (below_to (below_alloc (Below.refl w.heap.size w) (.cells #[.slice A0 l0.length c0] 29)) hb); clear hs hb))
    go_ret2
    exact ⟨_, rfl, Kd.S_nil _ _ _ _ _, B1.out⟩
def impl_lengths_line.f (l0 : List (List (List Int))) : Option (List Int) := if l0.length < 17592186044416 then some (l0.map fun l => (l.length : Int)) else none
open Go.Proofs.Ytldbabadbggleaa.X in
theorem impl_lengths_line.row_at {w : World} {A : Option Addr} {n : Nat} {xs : List (List (List Int))} (h : Kd.C (Kd.slice 70 impl_lineOf.kd) w A n xs) (i : Nat) (hi : i < n) (hx : i < xs.length) :
    ∃ ad A0 c0, A = some ad ∧ w.cell? (ad.add i) = some (.slice A0 xs[i].length c0) := by
  obtain ⟨ad, c, ea, _, hK, hc0⟩ := Kd.C_get h ([] : List (List Int)) (i : Int) (by omega) (by omega)
  obtain ⟨A0, c0, rfl, l0, g0⟩ := hK
  rw [Int.toNat_natCast] at hc0 l0 g0
  have e : xs.getD i [] = xs[i] := by simp [List.getD_eq_getElem?_getD, hx]
  rw [e] at hc0
  have hq := hc0 0 _ rfl
  have e1 : i * (Kd.slice 70 impl_lineOf.kd).sz + 0 = i := by show i * 1 + 0 = i; omega
  rw [e1] at hq
  exact ⟨ad, A0, c0, ea, hq⟩
open Go.Proofs.Ytldbabadbggleaa.X in
set_option maxHeartbeats 1600000 in
set_option maxRecDepth 100000 in
theorem impl_lengths_line.calls (A0 : Option Addr) (c0 : Nat) (l0 : List (List (List Int))) (r : List Int) (w : World) (hr0 : Kd.C (Kd.slice 70 impl_lineOf.kd) w A0 l0.length l0) (h : impl_lengths_line.f l0 = some r) :
    Calls Try.prog 63 #[.slice A0 l0.length c0] w fun e w' => ∃ v0_ : Value, e = .returned v0_ ∧ Kd.R (Kd.int .i64) 3 w' w.heap.size (fun _ => True) v0_ r ∧ Below w.heap.size w w' := by
  unfold impl_lengths_line.f at h
  split at h
  · rename_i hl
    have HE := Aside0.mk (Option.some.inj h)
    have HR := Aside0.mk hr0
    have HL := Aside0.mk hl
    clear hr0 h hl
    go_enter Try.func63, Try.ntmps63
    go_wp2_with (first | ((with_reducible refine gate_dst (N := 6) rfl ?_); refine Kd.R_lit (Kd.int .i64) w.heap.size 3 ?hg (N := 6) ?hd (xs := ([] : List Int)) (inner := []) (ok := fun _ => True) (okp := fun _ => True) ?hr ?hp (fun _ hk => hk) trivial (Below.refl _ _) (Nat.le_refl _) (by simp) ?_; (case hd => rfl); (case hg => rfl); (case hr => first | (go_simp; done) | (go_simp; rfl)); (case hp => exact (Reps.none _ _)); intro v6 w2 ho hb hg_ hnew_; have HO := Aside0.mk ho; have HB := Aside0.mk hb; clear ho hb hg_ hnew_))
    go_loopw [3, 9] (fun v3 v9 wr => ∃ q : Nat, v9 = .int .i64 (q : Int) ∧ q ≤ l0.length ∧ Aside0 (Kd.R (Kd.int .i64) 3 wr w.heap.size (fun _ => True) v3 ((l0.take q).map fun l => (l.length : Int))) ∧ Aside0 (Below w.heap.size w wr)) (fun _ v9 _ => l0.length - (intOf v9).toNat)
    case atStart => exact ⟨0, rfl, Nat.zero_le _, HO, HB⟩
    case round =>
      clear HO HB
      obtain ⟨q, rfl, hq, HO, HB⟩ := hrel
      have e2 : wrap64 ((q : Int) + 1) = ((q + 1 : Nat) : Int) := by have := HL.out; unfold wrap64; omega
      by_cases hlt : q < l0.length
      · obtain ⟨ad, A1, c1, e1, hx⟩ := impl_lengths_line.row_at (Kd.C_below HR.out HB.out) q hlt hlt
        cases e1
        have HT := Aside0.mk (show ((l0.take q).map fun l => (l.length : Int)) ++ [(l0[q].length : Int)] = (l0.take (q + 1)).map fun l => (l.length : Int) by rw [List.take_succ_eq_append_getElem hlt, List.map_append]; rfl)
        have HLT := Aside0.mk (show ((l0.take q).map fun l => (l.length : Int)).length ≤ q by rw [List.length_map, List.length_take]; omega)
        obtain ⟨n, hn⟩ : ∃ n, n = l0[q].length := ⟨_, rfl⟩
        rw [← hn] at hx
        rw [← hn] at HT
        clear hn
        obtain ⟨y, hy⟩ : ∃ y, y = (l0.take q).map fun l => (l.length : Int) := ⟨_, rfl⟩
        rw [← hy] at HO HT HLT
        clear hy
        have p1 : 0 ≤ ((q : Nat) : Int) := by omega
        have q1 : ((q : Nat) : Int) < (l0.length : Int) := by omega
        go_wp2_with (first | ((with_reducible refine gate_builtin (b := .append) (xs := #[.tmp 13, .tmp 16]) rfl ?_); at_builtin; refine Kd.R_append (Kd.int .i64) (w0 := w) w.heap.size rfl (.tmp 13) (.tmp 16) 22 3 (.int .i64 0) 8 rfl Try.underlying22 info3 rfl (by decide) (by omega) u3 y (n : Int) [.int .i64 (n : Int)] (fun _ => True) (fun _ => False) rfl rfl ?aP (fun _ hk => hk.elim) ?aF ?aO ?aB ?aS ?aL ?_; (case aP => exact rfl); (case aB => exact HB.out); (case aF => exact (fun _ _ => trivial)); (case aO => exact HO.out); (case aS => exact HB.out.size); (case aL => have := HL.out; have := HLT.out; omega); intro v17 w8 ho hb hg hat; rw [HT.out] at ho; have HO8 := Aside0.mk ho; have HB8 := Aside0.mk hb; clear ho hb hg hat))
        go_roundw
        case rel => exact ⟨q + 1, by first | rfl | go_num, by omega, HO8, HB8⟩
        case measure => (try simp only [e2]); exact (Nat.sub_lt_sub_left (by omega) (Nat.lt_succ_self q) : l0.length - (q + 1) < l0.length - q)
      · have HO2 := Aside0.mk (show Kd.R (Kd.int .i64) 3 wr w.heap.size (fun _ => True) u3 r by rw [← HE.out]; have := HO.out; rw [List.take_of_length_le (by omega)] at this; exact this)
        go_wp2
        go_ret
        exact ⟨_, rfl, HO2.out, HB.out⟩
  · cases h
def impl_promotionLengths.f (k : Nat) (a0 a1 : Int) : Option (List Int) := (impl_rectangle.f k a0 a1).bind fun l => (impl_linearCycles.f k l).bind fun p => impl_lengths_line.f p.1
theorem impl_promotionLengths.mono : ∀ a0 a1 k, LeO (impl_promotionLengths.f k a0 a1) (impl_promotionLengths.f (k + 1) a0 a1) := fun a0 a1 k => LeO.bind (impl_rectangle.mono _ _ _) fun l => LeO.bind (impl_linearCycles.mono _ _) fun p => LeO.refl _
open Go.Proofs.Ytldbabadbggleaa.X in
set_option maxHeartbeats 1600000 in
set_option maxRecDepth 100000 in
theorem impl_promotionLengths.calls (k : Nat) (a0 : Int) (a1 : Int) (r : List Int) (w : World) (h : impl_promotionLengths.f k a0 a1 = some r) :
    Calls Try.prog 43 #[.int .i64 a0, .int .i64 a1] w fun e w' => ∃ v0_ : Value, e = .returned (v0_) ∧ Kd.R (Kd.int .i64) 3 w' w.heap.size (fun _ => True) v0_ r ∧ Below w.heap.size w w' := by
  unfold impl_promotionLengths.f at h
  obtain ⟨l, hl, h⟩ := Option.bind_eq_some_iff.mp h
  obtain ⟨⟨c, b⟩, hc, h⟩ := Option.bind_eq_some_iff.mp h
  have HL := Aside0.mk hl
  have HC := Aside0.mk hc
  have HF := Aside0.mk h
  clear hl hc h
  go_enter Try.func43, Try.ntmps43
  go_wp2_with (first | (go_at_call 58; refine (impl_rectangle.calls k a0 a1 l _ HL.out).mono ?_; rintro e w1 ⟨v, rfl, hr, hb⟩; obtain ⟨A1, c1, rfl, hlc, hC1⟩ := Kd.R_reads hr; have C1 := Aside0.mk hC1; have LC := Aside0.mk hlc; have B1 := Aside0.mk hb; clear hr hb hlc hC1) | (go_at_call 62; refine (impl_linearCycles.calls k A1 c1 l c b _ C1.out LC.out HC.out).mono ?_; rintro e w2 ⟨v2, rfl, hs, hb⟩; obtain ⟨A2, c2, rfl, _, hC2⟩ := Kd.R_reads (Kd.S_R hs); have C2 := Aside0.mk hC2; have B2 := Aside0.mk (below_to B1.out hb); clear hs hb hC2) | (go_at_call 63; refine (impl_lengths_line.calls A2 c2 c r _ C2.out HF.out).mono ?_; rintro e w3 ⟨v3, rfl, hr, hb⟩; have R3 := Aside0.mk (Kd.R_lower hr B2.out.size); have B3 := Aside0.mk (below_to B2.out hb); clear hr hb))
  go_ret
  exact ⟨_, rfl, R3.out, B3.out⟩
def slices_Sort.ren : Go.Shelf.Ren := ⟨fun | 5 => 85 | 8 => 92 | 7 => 91 | 19 => 104 | 20 => 105 | 10 => 95 | 11 => 96 | 12 => 97 | 13 => 98 | 14 => 99 | 15 => 100 | 16 => 101 | 17 => 102 | 18 => 103 | 30 => 106 | 31 => 107 | 32 => 108 | 33 => 109 | 34 => 110 | 35 => 111 | 40 => 112 | n => n, fun | 23 => 22 | 25 => 3 | 3 => 3 | 32 => 90 | 22 => 22 | 0 => 0 | 44 => 99 | 46 => 101 | 4 => 4 | 36 => 94 | 35 => 93 | 41 => 41 | 5 => 5 | 9 => 9 | 53 => 102 | 57 => 106 | 63 => 108 | 64 => 109 | n => n, fun | n => n⟩
theorem slices_Sort.lays : Go.Proofs.SlLaysM.n5 Try.prog slices_Sort.ren where
  mixed := by kernel_rfl
  f5 := ⟨ "slices.Sort[[]int,int]", by decide, Try.func85.trans (congrArg some (by kernel_rfl))⟩
  f7 := ⟨ "slices.pdqsortOrdered[int]", by decide, Try.func91.trans (congrArg some (by kernel_rfl))⟩
  f8 := Try.func92.trans (congrArg some (by kernel_rfl))
  f10 := ⟨ "slices.insertionSortOrdered[int]", by decide, Try.func95.trans (congrArg some (by kernel_rfl))⟩
  f11 := ⟨ "slices.heapSortOrdered[int]", by decide, Try.func96.trans (congrArg some (by kernel_rfl))⟩
  f12 := ⟨ "slices.breakPatternsOrdered[int]", by decide, Try.func97.trans (congrArg some (by kernel_rfl))⟩
  f13 := ⟨ "slices.choosePivotOrdered[int]", by decide, Try.func98.trans (congrArg some (by kernel_rfl))⟩
  f14 := ⟨ "slices.reverseRangeOrdered[int]", by decide, Try.func99.trans (congrArg some (by kernel_rfl))⟩
  f15 := ⟨ "slices.partialInsertionSortOrdered[int]", by decide, Try.func100.trans (congrArg some (by kernel_rfl))⟩
  f16 := ⟨ "cmp.Less[int]", by decide, Try.func101.trans (congrArg some (by kernel_rfl))⟩
  f17 := ⟨ "slices.partitionEqualOrdered[int]", by decide, Try.func102.trans (congrArg some (by kernel_rfl))⟩
  f18 := ⟨ "slices.partitionOrdered[int]", by decide, Try.func103.trans (congrArg some (by kernel_rfl))⟩
  f19 := Try.func104.trans (congrArg some (by kernel_rfl))
  f20 := Try.func105.trans (congrArg some (by kernel_rfl))
  f30 := ⟨ "slices.siftDownOrdered[int]", by decide, Try.func106.trans (congrArg some (by kernel_rfl))⟩
  f31 := Try.func107.trans (congrArg some (by kernel_rfl))
  f32 := Try.func108.trans (congrArg some (by kernel_rfl))
  f33 := ⟨ "slices.medianAdjacentOrdered[int]", by decide, Try.func109.trans (congrArg some (by kernel_rfl))⟩
  f34 := ⟨ "slices.medianOrdered[int]", by decide, Try.func110.trans (congrArg some (by kernel_rfl))⟩
  f35 := ⟨ "cmp.isNaN[int]", by decide, Try.func111.trans (congrArg some (by kernel_rfl))⟩
  f40 := ⟨ "slices.order2Ordered[int]", by decide, Try.func112.trans (congrArg some (by kernel_rfl))⟩
  t0 := Try.underlying0
  a0 := Try.isAgg0
  z0 := Try.sizeOf0
  v0 := Try.zeroValue0
  t3 := Try.underlying3
  a3 := Try.isAgg3
  z3 := Try.sizeOf3
  v3 := Try.zeroValue3
  t4 := Try.underlying4
  a4 := Try.isAgg4
  z4 := Try.sizeOf4
  v4 := Try.zeroValue4
  t5 := Try.underlying5
  a5 := Try.isAgg5
  z5 := Try.sizeOf5
  v5 := Try.zeroValue5
  t9 := Try.underlying9
  a9 := Try.isAgg9
  z9 := Try.sizeOf9
  v9 := Try.zeroValue9
  t22 := Try.underlying22
  a22 := Try.isAgg22
  z22 := Try.sizeOf22
  v22 := Try.zeroValue22
  t23 := Try.underlying22
  a23 := Try.isAgg22
  z23 := Try.sizeOf22
  v23 := Try.zeroValue22
  t25 := Try.underlying3
  a25 := Try.isAgg3
  z25 := Try.sizeOf3
  v25 := Try.zeroValue3
  t32 := Try.underlying90
  a32 := Try.isAgg90
  z32 := Try.sizeOf90
  v32 := Try.zeroValue90
  t35 := Try.underlying93
  a35 := Try.isAgg93
  z35 := Try.sizeOf93
  v35 := Try.zeroValue93
  t36 := Try.underlying94
  a36 := Try.isAgg94
  z36 := Try.sizeOf94
  v36 := Try.zeroValue94
  t41 := Try.underlying41
  a41 := Try.isAgg41
  z41 := Try.sizeOf41
  v41 := Try.zeroValue41
  t44 := Try.underlying99
  a44 := Try.isAgg99
  z44 := Try.sizeOf99
  v44 := Try.zeroValue99
  t46 := Try.underlying101
  a46 := Try.isAgg101
  z46 := Try.sizeOf101
  v46 := Try.zeroValue101
  t53 := Try.underlying102
  a53 := Try.isAgg102
  z53 := Try.sizeOf102
  v53 := Try.zeroValue102
  t57 := Try.underlying106
  a57 := Try.isAgg106
  z57 := Try.sizeOf106
  v57 := Try.zeroValue106
  t63 := Try.underlying108
  a63 := Try.isAgg108
  z63 := Try.sizeOf108
  v63 := Try.zeroValue108
  t64 := Try.underlying109
  a64 := Try.isAgg109
  z64 := Try.sizeOf109
  v64 := Try.zeroValue109
theorem slices_Sort.heap {w : World} {g e : Nat} {cur : Array Value} (h : w.heap[g]? = some (.cells cur e (0, 0))) (f : Array Value → Array Value) : (Go.Sort.mapBlock w g f).heap[g]? = some (.cells (f cur) e (0, 0)) := by
  unfold Go.Sort.mapBlock
  show (w.heap.modify g (Go.Sort.onCells f))[g]? = _
  rw [Array.getElem?_modify, if_pos rfl, h]
  rfl
theorem slices_Sort.far {w : World} {g k : Nat} (hk : k ≠ g) (f : Array Value → Array Value) : (Go.Sort.mapBlock w g f).heap[k]? = w.heap[k]? := by
  unfold Go.Sort.mapBlock
  show (w.heap.modify g (Go.Sort.onCells f))[k]? = _
  rw [Array.getElem?_modify, if_neg (fun e => hk e.symm)]
theorem slices_Sort.hold {g n c base e : Nat} {ok : Nat → Prop} {w : World} {xs : List Int} (h : (Kd.int .i64).R e w base ok (.slice (some ⟨g, 0, none⟩) n c) xs) : Go.Sort.Holds (Value.int .i64) w g 0 xs.toArray := by
  obtain ⟨hn, _, _⟩ := Kd.R_reads' h
  subst hn
  intro j hj
  have hj' : j < xs.length := by simpa using hj
  obtain ⟨h1, h2⟩ := Kd.R_celln (0 : Int) h (j : Int) (by omega) (by omega)
  rw [Int.toNat_natCast] at h1 h2
  rw [Nat.zero_add]
  refine ⟨?_, h2⟩
  rw [h1]
  simp [rdOf, List.getD_eq_getElem?_getD, hj']
theorem slices_Sort.put {g n c base e : Nat} {ok : Nat → Prop} {w : World} {xs zs : List Int} (h : (Kd.int .i64).R e w base ok (.slice (some ⟨g, 0, none⟩) n c) xs) (hz : zs.length = xs.length) :
    (Kd.int .i64).R e (Go.Sort.putRow (Value.int .i64) w g 0 zs.toArray) base ok (.slice (some ⟨g, 0, none⟩) n c) zs := by
  obtain ⟨hn, _, _⟩ := Kd.R_reads' h
  subst hn
  have ho := Kd.own_of_R h
  obtain ⟨hl, hor⟩ := ho
  rcases hor with ⟨e1, _⟩ | ⟨g', cap, cur, e1, hb, hh, hnc, hcm, hcs, ht⟩
  · cases e1
  · injection e1 with e2 e3 e4
    injection e2 with e2
    injection e2 with e2
    subst e2 e4
    have hown : (Go.Sort.putRow (Value.int .i64) w g 0 zs.toArray).ownsRow base e 1 (.slice (some ⟨g, 0, none⟩) xs.length c) zs.length (encs (Value.int .i64) zs) := by
      rw [hz]
      refine ⟨by rw [encs_length]; omega, .inr ⟨g, c, Go.Sort.putCells (Value.int .i64) 0 zs.toArray cur, rfl, hb, slices_Sort.heap hh _, hnc, hcm, ?_, ?_⟩⟩
      · unfold Go.Sort.putCells
        rw [Array.size_mapIdx]
        exact hcs
      · refine List.ext_getElem? fun j => ?_
        rw [List.getElem?_take]
        by_cases hj : j < xs.length * 1
        · rw [if_pos hj]
          have hjc : j < cur.size := by omega
          have hjz : j < zs.length := by omega
          unfold Go.Sort.putCells encs
          rw [Array.getElem?_toList, Array.getElem?_mapIdx, Array.getElem?_eq_getElem hjc, List.getElem?_map, List.getElem?_eq_getElem hjz]
          simp [hjz]
        · rw [if_neg hj, List.getElem?_eq_none (by rw [encs_length]; omega)]
    rw [hz] at hown
    rw [← hz] at hown ⊢
    exact Kd.R_of_own hown h.1
theorem slices_Sort.grown {d : Kd Int} {base e : Nat} {ok : Nat → Prop} {v : Value} {w : World} {xs : List Int} (h : d.R e w base ok v xs) (os : Array Obj) : d.R e (Go.Sort.grow w os) base ok v xs := by
  refine Kd.R_step h fun k _ hk => ?_
  unfold Go.Sort.grow
  show (w.heap ++ os)[k]? = _
  rw [Array.getElem?_append_left hk]
theorem slices_Sort.below {B g n : Nat} {w0 w : World} (h : Below B w0 w) (hg : B ≤ g) (hB : B ≤ w.heap.size) (d : Array Int) (os : Array Obj) : Below B w0 (Go.Sort.grow (Go.Sort.putRow (Value.int .i64) (Go.Sort.ahead w n) g 0 d) os) := by
  refine ⟨h.os, h.tape, h.output, ?_, fun k hk => ?_⟩
  · refine Nat.le_trans h.size ?_
    show _ ≤ ((w.heap.modify g _) ++ os).size
    rw [Array.size_append, Array.size_modify]
    omega
  · rw [← h.block k hk]
    show ((w.heap.modify g (Go.Sort.onCells _)) ++ os)[k]? = _
    rw [Array.getElem?_append_left (by rw [Array.size_modify]; omega), Array.getElem?_modify, if_neg (by omega)]
def impl_sorted.sort (l : List Int) : List Int := l.mergeSort fun x y => decide (x ≤ y)
set_option maxHeartbeats 800000 in
set_option maxRecDepth 100000 in
theorem slices_Sort.calls (v : Value) (l : List Int) (w0 w : World) (hb : Below w0.heap.size w0 w) (hr : Kd.R (Kd.int .i64) 3 w w0.heap.size (fun _ => True) v l) (hl : l.length ≤ 17592186044416) :
    Calls Try.prog 85 #[v] w fun e w' => e = .returned (.tuple #[]) ∧ Kd.R (Kd.int .i64) 3 w' w0.heap.size (fun _ => True) v (impl_sorted.sort l) ∧ Below w0.heap.size w0 w' := by
  cases l with
  | nil =>
    obtain ⟨A, c, rfl, _, _⟩ := Kd.R_reads hr
    refine (Go.Proofs.AnyM.slices_Sort_int_none slices_Sort.lays A c w).mono ?_
    rintro e w' ⟨rfl, rfl⟩
    have e1 : impl_sorted.sort [] = [] := by unfold impl_sorted.sort; simp
    rw [e1]
    exact ⟨rfl, hr, hb⟩
  | cons x l =>
    obtain ⟨g, c, rfl, gb, gl, cl, hg⟩ := Kd.R_form hr (by simp)
    refine (Go.Proofs.AnyM.slices_Sort_int slices_Sort.lays g 0 c (x :: l) w (slices_Sort.hold hr) gl (by omega)).mono ?_
    rintro e w' ⟨rfl, n, os, rfl⟩
    have h1 : Kd.R (Kd.int .i64) 3 (Go.Sort.ahead w n) w0.heap.size (fun _ => True) (.slice (some ⟨g, 0, none⟩) (x :: l).length c) (x :: l) := Kd.R_step hr fun _ _ _ => rfl
    exact ⟨rfl, slices_Sort.grown (slices_Sort.put h1 (by rw [List.length_mergeSort])) os, slices_Sort.below hb gb hb.size _ os⟩
def impl_sorted.f (l0 : List Int) : Option (List Int) := if l0.length < 17592186044416 then some (impl_sorted.sort l0) else none
set_option maxHeartbeats 800000 in
set_option maxRecDepth 100000 in
theorem impl_sorted.calls (A0 : Option Addr) (c0 : Nat) (l0 : List Int) (r : List Int) (w : World) (hr0 : Kd.C (Kd.int .i64) w A0 l0.length l0) (hc0 : l0.length ≤ c0) (h : impl_sorted.f l0 = some r) :
    Calls Try.prog 69 #[.slice A0 l0.length c0] w fun e w' => ∃ v0_ : Value, e = .returned (v0_) ∧ Kd.R (Kd.int .i64) 3 w' w.heap.size (fun _ => True) v0_ r ∧ Below w.heap.size w w' := by
  unfold impl_sorted.f at h
  split at h
  · rename_i hl
    obtain rfl := Option.some.inj h
    have HL := Aside0.mk hl
    have HR := Aside0.mk hr0
    have HC := Aside0.mk hc0
    have HF := Aside0.mk (show slices_Clone_int_int.f l0 = some l0 from if_pos hl)
    clear h hl hr0 hc0
    go_enter Try.func69, Try.ntmps69
    go_wp2_with fail
    refine (slices_Clone_int_int.calls A0 c0 l0 l0 _ HR.out HC.out HF.out).mono ?_
    rintro e w1 ⟨v1, rfl, hR, hb⟩
    have R1 := Aside0.mk hR
    have B1 := Aside0.mk hb
    clear hR hb
    go_wp2_with fail
    refine (slices_Sort.calls v1 l0 w _ B1.out R1.out (by have := HL.out; omega)).mono ?_
    rintro e w2 ⟨rfl, hR, hb⟩
    have R2 := Aside0.mk hR
    have B2 := Aside0.mk hb
    clear hR hb
    go_wp2
    go_ret
    exact ⟨_, rfl, R2.out, B2.out⟩
  · cases h
end Go.Proofs.Ytldbabadbggleaa.L
end
