/- Laws about the given program: the law FnNumbersToggled answers true for every input that its row lets in; no condition is added to the given statement. Contracts of the Go functions that it reaches, and the plain proof over lists. -/
import Derived.ArgAppend
import Derived.Below
import Derived.BigQuiet
import Derived.Deep.AppendLies
import Derived.Deep.CutBlock
import Derived.Deep.DeepCutAuto
import Derived.Deep.Draws
import Derived.Deep.LoopGhost
import Derived.Deep.OwnRows
import Derived.Deep.QuietTactic
import Derived.Deep.RegionHeld3
import Derived.Deep.RegionLaw
import Derived.KernelRfl
import Derived.Laws.BitsLemmas
import Derived.Laws.BytesArg
import Derived.Laws.IdiomCopy
import Derived.Laws.MakeOwn
import Derived.Laws.OwnMore
import Derived.Laws.Rows
import Derived.Laws.Slices
import Derived.Lib.AppendStr
import Derived.Lib.ConvBytes
import Derived.Lib.SliceRun
import Derived.Maps.AppendAt
import Derived.Maps.OwnOps
import Derived.Maps.OwnSet
import Derived.Maps.RangeWalk
import Derived.OrdersHeld
import Derived.OwnWalk
import Derived.RowKit
import Derived.RowKit3
import Derived.Shelf.Abstract
import Derived.Shelf.SlGeneric
import Derived.Shelf.SortM.Plain
import Derived.Shelf.SortM.SortNone
import Derived.Tactics
import Derived.Test.YtkgngggppcmpfaaProg
import Derived.WalkKit
import Derived.WalkSpells
import Derived.WideLaws
import Derived.Test.YtkgngggppcmpfaaWFnNumbersToggled0
section
namespace Go.Proofs.Ytkgngggppcmpfaa.X
open Go.RowKit Go.Proofs.YtkgngggppcmpfaaW.PrintWords Go.Proofs.YtkgngggppcmpfaaW.PrintLast Go.Proofs.YtkgngggppcmpfaaW.PrintMore
set_option linter.unusedVariables false
def Fv (P : Program) (g : Nat) (lb : Array Value) (args : Array Value) (r : Value) (w : World) : Prop :=
 ∀ W, Below w.heap.size w W → Calls P g (args ++ lb) W fun e w' => e = .returned r ∧ Below W.heap.size W w'
theorem Fv.calls {P : Program} {g : Nat} {lb args : Array Value} {r : Value} {w W : World} (h : Fv P g lb args r w) (hb : Below w.heap.size w W) :
  Calls P g (args ++ lb) W fun e w' => e = .returned r ∧ Below W.heap.size W w' := h W hb
theorem below_to {w W w' : World} (h : Below w.heap.size w W) (h' : Below W.heap.size W w') : Below w.heap.size w w' := h.trans (h'.mono h.size)
def idxFrom (p : Int → Bool) : List Int → Nat → Int
 | [], _ => -1
 | x :: l, i => if p x then (i : Int) else idxFrom p l (i + 1)
def idxOf (p : Int → Bool) (l : List Int) : Int := idxFrom p l 0
theorem idxFrom_any (p : Int → Bool) : ∀ (l : List Int) (i : Nat), (0 ≤ idxFrom p l i) ↔ l.any p = true
 | [], i => by simp [idxFrom]
 | x :: l, i => by
  unfold idxFrom
  by_cases h : p x = true
  ·
   rw [if_pos h]; simp [h]
  ·
   rw [if_neg h, idxFrom_any p l (i + 1)]; simp [h]
theorem row_at {e : Nat} {w : World} {A : Option Addr} {n : Nat} {xs : List (List Int)} (h : Kd.C (Kd.slice e (Kd.int .i64)) w A n xs) (i : Nat) (hi : i < n) :
  ∃ ad A0 c0, A = some ad ∧ w.cell? (ad.add i) = some (.slice A0 (xs.getD i []).length c0) ∧ (xs.getD i []).length ≤ c0 ∧ (Kd.int .i64).C w A0 (xs.getD i []).length (xs.getD i []) := by
 obtain ⟨ad, c, ea, _, hK, hc0⟩ := Kd.C_get h ([] : List Int) (i : Int) (by omega) (by omega)
 obtain ⟨A0, c0, rfl, l0, g0⟩ := hK
 rw [Int.toNat_natCast] at hc0 l0 g0
 refine ⟨ad, A0, c0, ea, ?_, l0, g0⟩
 have hq := hc0 0 _ rfl
 have e1 : i * (Kd.slice e (Kd.int .i64)).sz + 0 = i := by show i * 1 + 0 = i; omega
 rwa [e1] at hq
def FvL (P : Program) (g : Nat) (lb : Array Value) (x : List Int) (r : Value) (w : World) : Prop :=
 ∀ W A c, Below w.heap.size w W → Kd.C (Kd.int .i64) W A x.length x → x.length ≤ c → Calls P g (#[.slice A x.length c] ++ lb) W fun e w' => e = .returned r ∧ Below W.heap.size W w'
theorem FvL.calls {P : Program} {g : Nat} {lb : Array Value} {x : List Int} {r : Value} {w W : World} {A : Option Addr} {c : Nat} (h : FvL P g lb x r w) (hb : Below w.heap.size w W) (hc : Kd.C (Kd.int .i64) W A x.length x) (hl : x.length ≤ c) :
  Calls P g (#[.slice A x.length c] ++ lb) W fun e w' => e = .returned r ∧ Below W.heap.size W w' := h W A c hb hc hl
class Ltr (w W : World) : Prop where out : Below w.heap.size w W
section
variable {α : Type} {d : Kd α} {e base n g : Nat} {ok : Nat → Prop} {w0 w W W1 : World} {v : Value} {xs : List α} {A : Option Addr} {q : Obj}
instance lr0 : Ltr w w := ⟨Below.refl _ _⟩
instance lr1 (o : Obj) [h : Ltr w W] : Ltr w (W.alloc o) := ⟨below_alloc h.out o⟩
instance lr2 (m : Nat) [h : Ltr w W] : Ltr w (W.drewN m) := ⟨pw_below_drewN h.out m⟩
instance lr3 [h : Ltr w W] : Ltr w W.drew := ⟨below_drew1 h.out⟩
theorem uR (h : Aside0 (d.R e w base ok v xs)) [l : Ltr w W] : d.R e W base ok v xs := Kd.R_below h.out l.out
theorem uC (h : Aside0 (d.C w A n xs)) [l : Ltr w W] : d.C W A n xs := Kd.C_below h.out l.out
theorem uD (h : Aside0 (d.C w A n xs)) (b : Aside0 (Below w.heap.size w W)) [l : Ltr W W1] : d.C W1 A n xs := Kd.C_below (Kd.C_below h.out b.out) l.out
theorem uB (h : Aside0 (Below w0.heap.size w0 w)) [l : Ltr w W] : Below w0.heap.size w0 W := h.out.trans (l.out.mono h.out.size)
theorem uK (h : Aside0 (w.heap[g]? = some q)) [l : Ltr w W] : W.heap[g]? = some q := (l.out.block g (blk_lt h.out)).trans h.out
theorem uS (h : Aside0 (Kd.S d e w base ok v xs)) [l : Ltr w W] : Kd.S d e W base ok v xs := Kd.S_below h.out l.out
theorem uE {c : Nat} (h : Aside0 (d.R e w base ok (.slice A n c) xs)) [l : Ltr w W] : d.C W A xs.length xs := Kd.C_below (Kd.R_reads' h.out).2.2 l.out
theorem uP {row : Option Nat} (h : Aside0 (KeepBut w0 w g row)) [l : Ltr w W] : KeepBut w0 W g row := h.out.trans (KeepBut.of_below l.out g row) (.inl rfl)
theorem bs {α β : Type} {a : Option α} {f : α → Option β} {r : β} (h : a.bind f = some r) : ∃ t, Aside0 (a = some t) ∧ f t = some r := by
 obtain ⟨t, h1, h2⟩ := Option.bind_eq_some_iff.mp h; exact ⟨t, ⟨h1⟩, h2⟩
end
section
variable {P : Program} {ops : Array Oper} {rest : List Oper} {o : Oper} {a : Act} {Q : Exit → Act → World → Prop} {w : World}
theorem gA {f : FuncId} {fn : Func} {aa : Array Operand} {ts : Array TypeId} (N : Option Tmp) (hf : P.funcs[f]? = some fn) (args : Array Value)
  (h : Calls P f args w fun e w' => ∃ v, e = .returned v ∧ wpList P ops Q rest (a.put N v) w')
  (hd : o.dst = N := by rfl) (hg : o.guard = none := by rfl) (hop : o.op = .call { callee := .value (.func f), args := aa, argTypes := ts } := by with_reducible rfl)
  (hname : (fn.name == "runtime.NumGoroutine") = false := by as_aux_lemma => kernel_rfl) (hb : fn.body.isSome = true := by rfl)
  (hargs : aa.map a.eval = args := by (try simp only [List.map_toArray, List.map_cons, List.map_nil]); first | done | rfl | (simp only [List.length_drop, List.length_take]; rfl)) : wpList P ops Q (o :: rest) a w :=
 goesL_ N hd hg hf hname hb args hop hargs h
theorem bE {N : Tmp} {cs : Array Value} {t : TypeId}
  (h : ∀ g, g = w.heap.size → ∀ w1, w1.heap[g]? = some (.cells cs t (0, 0)) → Below w.heap.size w w1 → wpList P ops Q rest (a.put o.dst (.pointer (some ⟨g, 0, none⟩))) w1)
  (hd : o.dst = some N := by with_reducible rfl) (hg : o.guard = none := by rfl)
  (hr : (execOp a.eval o).run P w = .ok (.value (.pointer (some ⟨w.heap.size, 0, none⟩))) (w.alloc (.cells cs t (0, 0))) := by first | (go_simp; done) | (go_simp; rfl)) : wpList P ops Q (o :: rest) a w :=
 box_event hg hd hr h
end
section
variable {P : Program} {ops : Array Oper} {Q : Exit → Act → World → Prop} {md : Region.Mode} {S : World → Prop} {ds : List Nat}
variable {v : Value} {fuel : Nat} {l : Array Bool} {a a' : Act} {w w1 : World} {oi : Oper} {T : Bool × List (List Nat × List Nat)} {B : List Nat}
theorem pU (i N : Nat) (h : wpAnyLast P md ops Q S ds fuel (l.setIfInBounds i true) a' w) (hT : rtab md ops = T := by exact HT_.out)
  (hi : ops[i]? = some oi := by rfl) (hN : oi.dst = some N := by rfl) (hc : anyT T l.toList (l.setIfInBounds i true).toList i = true := by kernel_rfl)
  (hy : Yields P ops oi v a := by exact Or.inl ⟨by rfl, by (intro w'; go_simp; with_reducible rfl)⟩)
  (hQ : ∀ c a w, Q (.panic c) (a.put oi.dst v) w → Q (.panic c) a w := by exact fun _ _ _ h => h) (ha : a.put (some N) v = a' := by (simp only [Act.put, List.setIfInBounds_toArray, List.set_cons_zero, List.set_cons_succ, i64_w, i32_w]; rfl)) : wpAnyLast P md ops Q S ds (fuel + 1) l a w :=
 pure_ _ hi hN (any_of hT hc) hQ hy ha h
theorem pV (i N : Nat) (h : wpAnyLast P md ops Q S ds fuel (l.setIfInBounds i true) a' w)
  (hi : ops[i]? = some oi := by rfl) (hN : oi.dst = some N := by rfl) (hc : anyB md ops l (l.setIfInBounds i true) i = true := by kernel_rfl)
  (hy : Yields P ops oi v a := by exact Or.inl ⟨by rfl, by (intro w'; go_simp; with_reducible rfl)⟩)
  (hQ : ∀ c a w, Q (.panic c) (a.put oi.dst v) w → Q (.panic c) a w := by exact fun _ _ _ h => h) (ha : a.put (some N) v = a' := by (simp only [Act.put, List.setIfInBounds_toArray, List.set_cons_zero, List.set_cons_succ, i64_w, i32_w]; rfl)) : wpAnyLast P md ops Q S ds (fuel + 1) l a w :=
 pure_ _ hi hN hc hQ hy ha h
theorem tU (i N : Nat) (hS : S w) (h : wpAnyLast P md ops Q S ds fuel (l.setIfInBounds i true) a' w) (hT : rtab md ops = T := by exact HT_.out) (hW : waitsOk T.2 B = true := by exact HW_.out)
  (hi : ops[i]? = some oi := by rfl) (hN : oi.dst = some N := by rfl) (hc : takeW T B ds l.toList (l.setIfInBounds i true).toList i = true := by kernel_rfl)
  (hy : YieldsIf P ops S oi v a := by exact Or.inl ⟨by rfl, by (intro w' s0; go_simp; with_reducible rfl)⟩)
  (hQ : ∀ c a w, Q (.panic c) (a.put oi.dst v) w → Q (.panic c) a w := by exact fun _ _ _ h => h) (ha : a.put (some N) v = a' := by (simp only [Act.put, List.setIfInBounds_toArray, List.set_cons_zero, List.set_cons_succ, i64_w, i32_w]; rfl)) : wpAnyLast P md ops Q S ds (fuel + 1) l a w :=
 take_ _ hi hN (take_ofW hT hW hc) hQ hy hS ha h
theorem tW (i N : Nat) (hS : S w) (h : wpAnyLast P md ops Q S ds fuel (l.setIfInBounds i true) a' w) (hT : rtab md ops = T := by exact HT_.out) (hW : waitsOk T.2 B = true := by exact HW_.out)
  (hi : ops[i]? = some oi := by rfl) (hN : oi.dst = some N := by rfl) (hc : takeW T B ds l.toList (l.setIfInBounds i true).toList i = true := by kernel_rfl)
  (hy : YieldsIf P ops S oi v a := by exact Or.inl ⟨by rfl, by (rintro w' ⟨s0, s1⟩; go_simp; with_reducible rfl)⟩)
  (hQ : ∀ c a w, Q (.panic c) (a.put oi.dst v) w → Q (.panic c) a w := by exact fun _ _ _ h => h) (ha : a.put (some N) v = a' := by (simp only [Act.put, List.setIfInBounds_toArray, List.set_cons_zero, List.set_cons_succ, i64_w, i32_w]; rfl)) : wpAnyLast P md ops Q S ds (fuel + 1) l a w :=
 take_ _ hi hN (take_ofW hT hW hc) hQ hy hS ha h
theorem tV (i N : Nat) (hS : S w) (h : wpAnyLast P md ops Q S ds fuel (l.setIfInBounds i true) a' w)
  (hi : ops[i]? = some oi := by rfl) (hN : oi.dst = some N := by rfl) (hc : takeB md ops ds l (l.setIfInBounds i true) i = true := by kernel_rfl)
  (hy : YieldsIf P ops S oi v a := by exact Or.inl ⟨by rfl, by (intro w' s0; go_simp; with_reducible rfl)⟩)
  (hQ : ∀ c a w, Q (.panic c) (a.put oi.dst v) w → Q (.panic c) a w := by exact fun _ _ _ h => h) (ha : a.put (some N) v = a' := by (simp only [Act.put, List.setIfInBounds_toArray, List.set_cons_zero, List.set_cons_succ, i64_w, i32_w]; rfl)) : wpAnyLast P md ops Q S ds (fuel + 1) l a w :=
 take_ _ hi hN hc hQ hy hS ha h
theorem oU (i : Nat) (N : Option Tmp) (h : ∀ K : Act → World → Prop, Shut (∀ a' w', S w' → (S w' → wpAnyLast P md ops Q S ds fuel (l.setIfInBounds i true) a' w') → K a' w') → if Region.wanted oi (yielded ops a.tmps) = true then Oper.wp P oi a w K Q else K (a.put N undef) w)
  (hT : rtab md ops = T := by exact HT_.out) (hi : ops[i]? = some oi := by rfl) (hN : oi.dst = N := by rfl)
  (hc : (readyT T.2 l.toList == [i] && l.toList.set i true == (l.setIfInBounds i true).toList) = true := by kernel_rfl) (hd : i ∉ ds := by decide) : wpAnyLast P md ops Q S ds (fuel + 1) l a w :=
 one_ _ hi hN (one_of hT hc) hd h
theorem oV (i : Nat) (N : Option Tmp) (h : ∀ K : Act → World → Prop, Shut (∀ a' w', S w' → (S w' → wpAnyLast P md ops Q S ds fuel (l.setIfInBounds i true) a' w') → K a' w') → if Region.wanted oi (yielded ops a.tmps) = true then Oper.wp P oi a w K Q else K (a.put N undef) w)
  (hi : ops[i]? = some oi := by rfl) (hN : oi.dst = N := by rfl)
  (hc : readyB md ops l (l.setIfInBounds i true) i = true := by kernel_rfl) (hd : i ∉ ds := by decide) : wpAnyLast P md ops Q S ds (fuel + 1) l a w :=
 one_ _ hi hN hc hd h
theorem lU (i : Nat) (N : Option Tmp) (h : ∀ K : Act → World → Prop, Shut (∀ a' w', wpAnyLast P md ops Q S ds fuel (l.setIfInBounds i true) a' w' → K a' w') → if Region.wanted oi (yielded ops a.tmps) = true then Oper.wp P oi a w K Q else K (a.put N undef) w)
  (hT : rtab md ops = T := by exact HT_.out) (hi : ops[i]? = some oi := by rfl) (hN : oi.dst = N := by rfl)
  (hc : (readyT T.2 l.toList == [i] && l.toList.set i true == (l.setIfInBounds i true).toList) = true := by kernel_rfl) (hd : i ∈ ds := by decide) : wpAnyLast P md ops Q S ds (fuel + 1) l a w :=
 last_ _ hi hN (one_of hT hc) hd h
theorem nU (N : Nat) (h : wpAnyLast P md ops Q S ds fuel l a' w) (ha : a.put (some N) v = a' := by (simp only [Act.put, List.setIfInBounds_toArray, List.set_cons_zero, List.set_cons_succ, i64_w, i32_w]; rfl)) : wpAnyLast P md ops Q S ds fuel l (a.put (some N) v) w := norm_ ha h
theorem sK {K : Act → World → Prop} (h : K a w1) (hw : Region.wanted oi (yielded ops a.tmps) = true := by rfl) (hN : oi.dst = none := by rfl)
  (hrun : (execOp a.eval oi).run P w = .ok .skip w1 := by (go_simp; rfl)) : if Region.wanted oi (yielded ops a.tmps) = true then Oper.wp P oi a w K Q else K (a.put none undef) w := skip_ hw hN hrun h
theorem sU {id n : Nat} (hS : S w.drew) (h : S w.drew → wpAnyLast P .any ops Q S ds n (Array.replicate n false) a w.drew)
  (hm : P.follows .mixedOrders = true := by kernel_rfl) (hn : ops.size = n := by rfl) : (Code.region id ops true).wp P Q a w := start_ _ hm hn rfl hS h
theorem dU {n : Nat} (h : Q .normal a w) (hT : rtab md ops = T := by exact HT_.out) (hr : (readyT T.2 l.toList == []) = true := by kernel_rfl) : wpAnyLast P md ops Q S ds n l a w := done_ (done_of hT hr) h
end
section
variable {w W : World} {g n b : Nat} {v : Value} {t : TypeId} {f : Nat × Nat} {A : Nat} {row : Option Nat}
theorem bC (h : Aside0 (w.heap[g]? = some (.cells #[v] t (0, 0)))) : w.cell? ⟨g, 0, none⟩ = some v := (blk_cell (cs := #[v]) (t := t) h.out 0).trans rfl
end
end Go.Proofs.Ytkgngggppcmpfaa.X
end
section
namespace Go.Proofs.Ytkgngggppcmpfaa.X
open Go.RowKit Go.Proofs.YtkgngggppcmpfaaW.PrintWords Go.Proofs.YtkgngggppcmpfaaW.PrintLast Go.Proofs.YtkgngggppcmpfaaW.PrintMore
set_option linter.unusedVariables false
section
variable {α : Type} {d : Kd α} {e base g : Nat} {ok ok' : Nat → Prop} {w W : World} {v : Value} {xs : List α} {cs : Array Value} {t : TypeId}
theorem vB {w0 w W : World} (k : Aside0 (Below w0.heap.size w0 w)) (h : Below w0.heap.size w0 W := by repeat (first | (with_reducible first | exact HB.out | apply below_alloc | apply pw_below_drewN | apply below_drew1 | refine below_set ?_ (Aside0.out (by assumption))) | exact HB.out)) : Below w0.heap.size w0 W := h
theorem vK {w0 w W : World} {row : Option Nat} (k : Aside0 (KeepBut w0 w g row)) (h : KeepBut w0 W g row := by repeat (first | (with_reducible first | exact HK.out | apply KeepBut.set_ | apply keep_drewN | apply keep_drew | apply keep_alloc | refine keep_far ?_ (Aside0.out (by assumption)) _) | exact HK.out)) : KeepBut w0 W g row := h
theorem kF {p : Prop} (h : p := by (repeat (first | (with_reducible first | refine blk_drewN ?_ _ | refine blk_drew ?_ | refine blk_alloc ?_ _) | refine blk_far ?_ (Aside0.out (by assumption)) _)); exact Aside0.out (by assumption)) : p := h
theorem bP {p : Prop} (h : p := by (with_reducible repeat (first | refine blk_drewN ?_ _ | refine blk_drew ?_ | refine blk_alloc ?_ _)); refine blk_put (cs := ?_) ?_ 0 _ ?_; rotate_left; (repeat (first | (with_reducible first | refine blk_drewN ?_ _ | refine blk_drew ?_ | refine blk_alloc ?_ _) | refine blk_far ?_ (Aside0.out (by assumption)) _)); exact Aside0.out (by assumption); rfl) : p := h
theorem rF (h : Aside0 (d.R e w base ok v xs)) (b : Aside0 (w.heap[g]? = some (.cells cs t (0, 0)))) (u : Value) [l : Ltr (w.setCell ⟨g, 0, none⟩ u) W] (hd : ∀ q, q ∈ e :: d.E → q ≠ t := by decide) : d.R e W base ok v xs :=
 Kd.R_below (Kd.R_mono (Kd.R_far (p := ⟨g, 0, none⟩) (Kd.R_types h.out b.out hd) (fun _ hk => hk.2) u) (fun _ h_ => h_.1)) l.out
end
theorem gt {P : Program} {ops : Array Oper} {Q : Exit → Act → World → Prop} {o : Oper} {rest : List Oper} {a : Act} {w : World} (h : wpList P ops Q (o :: rest) a w) : wpList P ops Q (o :: rest) a w := h
end Go.Proofs.Ytkgngggppcmpfaa.X
end
section
namespace Go.Proofs.Ytkgngggppcmpfaa.L
open Go.RowKit Go.Proofs.YtkgngggppcmpfaaW.PrintWords Go.Proofs.YtkgngggppcmpfaaW.PrintLast Go.Proofs.YtkgngggppcmpfaaW.PrintMore
attribute [local go_sem] max2_int min2_int max_two min_two max_three min_three max_four min_four
set_option linter.unusedVariables false
set_option linter.unusedSimpArgs false
def errW : Option Int → Value
 |none=> .nilIface
 |some c=> .iface 0 (.int .i64 c)
theorem errW_none : errW none = .nilIface := rfl
theorem errW_some (c : Int) : errW (some c) = .iface 0 (.int .i64 c) := rfl
theorem info3 : (Try.prog.info? 3).map (fun i => (i.zero, i.size, i.bytes)) = some (some (.int .i64 0), 1, 8) := by kernel_rfl
theorem info24 : (Try.prog.info? 24).map (fun i => (i.zero, i.size, i.bytes)) = some (some (.slice none 0 0), 1, 24) := by kernel_rfl
def rd_L2 (xs : List (List Int)) (i : Int) : (List Int) := xs.getD i.toNat ([] : List Int)
theorem at_L2 {w : World} {A : Option Addr} {n : Nat} {xs : List (List Int)} (h : Kd.C (Kd.slice 3 (Kd.int .i64)) w A n xs) (i : Int) (h0 : 0 ≤ i) (h1 : i < n) : ∃ ad A0 c0, A = some ad ∧ w.cell? (ad.add i.toNat) = some (.slice A0 (rd_L2 xs i).length c0) ∧ (rd_L2 xs i).length ≤ c0 ∧ (Kd.int .i64).C w A0 (rd_L2 xs i).length (rd_L2 xs i) := by
 obtain ⟨ad,c,e,_,hK,hc0⟩:=Kd.C_get h ([] :List Int) i h0 h1;have hc: ∀ j u,c[j]? =some u→w.cell? (ad.add (i.toNat*1+j))=some u:=hc0;obtain ⟨A0,c0,rfl,l0,g0⟩:=hK;exact ⟨ad,A0,c0,e,by have hq:=hc 0 _ rfl;rwa [Nat.mul_one,Nat.add_zero] at hq,l0,g0⟩
structure S26 where
 f0:(List Int)
def z26 : S26 := ⟨([] : List Int)⟩
def k26 : Kd S26 := Kd.iso (Kd.slice 3 (Kd.int .i64)) (fun x : S26 => x.f0)
theorem k26_heap : Kd.Heap k26 := Kd.heap_iso _ (Kd.heap_slice 3 (Kd.heap_int .i64))
theorem k26_open {w : World} {x : S26} {cs : List Value} (h : k26.K w x cs) : ∃ A0 c0, cs = [.slice A0 x.f0.length c0] ∧ x.f0.length ≤ c0 ∧ (Kd.int .i64).C w A0 x.f0.length x.f0 := by
 obtain ⟨A0,c0,rfl,l0,g0⟩:=h;exact ⟨A0,c0,rfl,l0,g0⟩
theorem k26_openM {w : World} {base : Nat} {ok : Nat → Prop} {x : S26} {cs : List Value} (h : k26.M w base ok x cs) : ∃ v0, cs = [v0] ∧ (Kd.int .i64).R 3 w base ok v0 x.f0 := by
 obtain ⟨v0,rfl,g0⟩:=h;exact ⟨v0,rfl,g0⟩
theorem k26_mk (w : World) (x : S26) {A0 : Option Addr} {c0 : Nat} (l0 : x.f0.length ≤ c0) (g0 : (Kd.int .i64).C w A0 x.f0.length x.f0) : k26.K w x [.slice A0 x.f0.length c0] := ⟨A0, c0, rfl, l0, g0⟩
theorem k26_mkM (w : World) (base : Nat) (ok : Nat → Prop) (x : S26) {v0 : Value} (g0 : (Kd.int .i64).R 3 w base ok v0 x.f0) : k26.M w base ok x [v0] := ⟨v0, rfl, g0⟩
def rd_T26 (xs : List S26) (i : Int) : S26 := xs.getD i.toNat z26
theorem at_T26 {w : World} {A : Option Addr} {n : Nat} {xs : List S26} (h : Kd.C k26 w A n xs) (i : Int) (h0 : 0 ≤ i) (h1 : i < n) : ∃ ad A0 c0, A = some ad ∧ w.cell? (ad.add i.toNat) = some (.slice A0 (rd_T26 xs i).f0.length c0) ∧ (rd_T26 xs i).f0.length ≤ c0 ∧ (Kd.int .i64).C w A0 (rd_T26 xs i).f0.length (rd_T26 xs i).f0 := by
 obtain ⟨ad,c,e,_,hK,hc0⟩:=Kd.C_get h z26 i h0 h1;have hc: ∀ j u,c[j]? =some u→w.cell? (ad.add (i.toNat*1+j))=some u:=hc0;obtain ⟨A0,c0,rfl,l0,g0⟩:=k26_open hK;exact ⟨ad,A0,c0,e,by have hq:=hc 0 _ rfl;rwa [Nat.mul_one,Nat.add_zero] at hq,l0,g0⟩
def laws_big.f (l0 : List Int) (l1 : List Int) : Option (Bool) := if (l0.length : Int) > 1048576 then (some true) else (some (decide ((l1.length : Int) > (wrap64 (1048576 - (l0.length : Int))))))
set_option maxHeartbeats 8000000 in
set_option maxRecDepth 100000 in
theorem laws_big.calls (A0 : Option Addr) (c0 : Nat) (l0 : List Int) (A1 : Option Addr) (c1 : Nat) (l1 : List Int) (r : Bool) (w : World) (hr0 : Kd.C (Kd.int .u8) w A0 l0.length l0) (hc0 : l0.length ≤ c0) (hr1 : Kd.C (Kd.int .u8) w A1 l1.length l1) (hc1 : l1.length ≤ c1) (h : laws_big.f l0 l1 = some r) :
 Calls Try.prog 6 #[.slice A0 l0.length c0, .slice A1 l1.length c1] w fun e w'=>e= .returned (.bool r)∧Drawn0 w w':=by
 have HR0:=Aside0.mk hr0;have HC0:=Aside0.mk hc0;clear hr0 hc0;have HR1:=Aside0.mk hr1;have HC1:=Aside0.mk hc1;clear hr1 hc1;have H:(if (l0.length:Int)>1048576 then (some true) else (some (decide ((l1.length:Int)>(wrap64 (1048576 - (l0.length:Int)))))))=some r:=h;clear h
 by_cases c3:(l0.length:Int)>1048576
 ·
  rw [if_pos c3] at H;have c3b0:=decide_eq_true c3;have c3b1:decide (1048576<l0.length)=true:=decide_eq_true (by omega);clear c3;obtain rfl:=Option.some.inj H;go_enter Try.func6,Try.ntmps6;go_wp2
  go_ret
  exact ⟨by first|rfl|(simp;done)|(simp [*];done),by repeat (first|exact Drawn0.refl _|apply Drawn0.step)⟩
 ·
  rw [if_neg c3] at H;have c3b0:=decide_eq_false c3;have c3b1:decide (1048576<l0.length)=false:=decide_eq_false (by omega);clear c3;obtain rfl:=Option.some.inj H;go_enter Try.func6,Try.ntmps6;go_wp2
  go_ret
  exact ⟨by first|rfl|(simp;done)|(simp [*];done),by repeat (first|exact Drawn0.refl _|apply Drawn0.step)⟩
end Go.Proofs.Ytkgngggppcmpfaa.L
end
section
namespace Go.Proofs.Ytkgngggppcmpfaa.L
open Go.RowKit Go.Proofs.YtkgngggppcmpfaaW.PrintWords Go.Proofs.YtkgngggppcmpfaaW.PrintLast Go.Proofs.YtkgngggppcmpfaaW.PrintMore Go.Proofs.Ytkgngggppcmpfaa.X
attribute [local go_sem] max2_int min2_int max_two min_two max_three min_three max_four min_four
set_option linter.unusedVariables false
set_option linter.unusedSimpArgs false
def impl_Poset_n.f (l0_0 : List Int) : Option (Int) := some (l0_0.length : Int)
set_option maxHeartbeats 8000000 in
set_option maxRecDepth 100000 in
theorem impl_Poset_n.calls (A0_0 : Option Addr) (c0_0 : Nat) (l0_0 : List Int) (r : Int) (w : World) (hr0_0 : Kd.C (Kd.int .i64) w A0_0 l0_0.length l0_0) (hc0_0 : l0_0.length ≤ c0_0) (h : impl_Poset_n.f l0_0 = some r) :
 Calls Try.prog 65 #[.agg #[.slice A0_0 l0_0.length c0_0]] w fun e w'=>e= .returned (.int .i64 r)∧Below w.heap.size w w':=by
 have hu26:=Try.underlying26;have HR0_0:=Aside0.mk hr0_0;have HC0_0:=Aside0.mk hc0_0;clear hr0_0 hc0_0;have HB:=Aside0.mk (Below.refl w.heap.size w);have H:(some (l0_0.length:Int))=some r:=h;clear h;obtain rfl:=Option.some.inj H;go_enter Try.func65,Try.ntmps65;go_wp2_with (first|(refine bE (N:=1) (cs:= #[.slice A0_0 l0_0.length c0_0]) (t:=26) ?_;intro gb101 hg w2 hbox hb;have BK101:=Aside0.mk (hbox);have GW101:=Aside0.mk ((by rw [hg];exact (below_size (uB HB)):w.heap.size≤gb101));have GE101:=GW101;replace HB:=Aside0.mk (below_step (uB HB) hb);clear hb hbox hg;have hcz3_0:=bC BK101;have hfz3_0:=blk_frozen BK101.out 0))
 go_ret
 exact ⟨by first|rfl|(simp [errW_none,errW_some] <;>rfl)|(simp [*,errW_none,errW_some] <;>rfl),uB HB⟩
end Go.Proofs.Ytkgngggppcmpfaa.L
end
section
namespace Go.Proofs.Ytkgngggppcmpfaa.L
open Go.RowKit Go.Proofs.YtkgngggppcmpfaaW.PrintWords Go.Proofs.YtkgngggppcmpfaaW.PrintLast Go.Proofs.YtkgngggppcmpfaaW.PrintMore
attribute [local go_sem] max2_int min2_int max_two min_two max_three min_three max_four min_four
set_option linter.unusedVariables false
set_option linter.unusedSimpArgs false
def impl_within.f (a0 : Int) (a1 : Int) (a2 : Int) : Option (Bool) := if a1 ≤ a0 then (some (decide (a0 ≤ a2))) else (some false)
set_option maxHeartbeats 8000000 in
set_option maxRecDepth 100000 in
theorem impl_within.calls (a0 : Int) (a1 : Int) (a2 : Int) (r : Bool) (w : World) (h : impl_within.f a0 a1 a2 = some r) :
 Calls Try.prog 81 #[.int .i64 a0, .int .i64 a1, .int .i64 a2] w fun e w'=>e= .returned (.bool r)∧Drawn0 w w':=by
 have H:(if a1≤a0 then (some (decide (a0≤a2))) else (some false))=some r:=h;clear h
 by_cases c4:a1≤a0
 ·
  rw [if_pos c4] at H;have c4b0:=decide_eq_true c4;clear c4;obtain rfl:=Option.some.inj H;go_enter Try.func81,Try.ntmps81;go_wp2
  go_ret
  exact ⟨by first|rfl|(simp;done)|(simp [*];done),by repeat (first|exact Drawn0.refl _|apply Drawn0.step)⟩
 ·
  rw [if_neg c4] at H;have c4b0:=decide_eq_false c4;clear c4;obtain rfl:=Option.some.inj H;go_enter Try.func81,Try.ntmps81;go_wp2
  go_ret
  exact ⟨by first|rfl|(simp;done)|(simp [*];done),by repeat (first|exact Drawn0.refl _|apply Drawn0.step)⟩
def impl_has.f (a0 : Int) (a1 : Int) : Option (Bool) := if 0 ≤ a1 then (some ((Go.bits .and .i64 (shr .i64 a0 a1) 1) == 1)) else (none)
set_option maxHeartbeats 8000000 in
set_option maxRecDepth 100000 in
theorem impl_has.calls (a0 : Int) (a1 : Int) (r : Bool) (w : World) (h : impl_has.f a0 a1 = some r) :
 Calls Try.prog 104 #[.int .i64 a0, .int .i64 a1] w fun e w'=>e= .returned (.bool r)∧Drawn0 w w':=by
 have H:(if 0≤a1 then (some ((Go.bits .and .i64 (shr .i64 a0 a1) 1)==1)) else (none))=some r:=h;clear h
 by_cases c3:0≤a1
 ·
  rw [if_pos c3] at H;have c3b0:=eq_true c3;have c3b1:=decide_eq_true c3;clear c3;obtain ⟨ji4,hji4⟩: ∃ j_:Int,(shr .i64 a0 a1)=j_:=⟨_,rfl⟩
  replace H:(some ((Go.bits .and .i64 (ji4) 1)==1))=some r:=by first|(rw [hji4] at H;exact H)|(simp only [hji4] at H ⊢;exact H)
  have hji4_:(a0 / 2 ^ min a1.toNat 64)=ji4:=hji4;have hji4z:a1≤64→(a0 / 2 ^ a1.toNat)=ji4:=shr_small hji4;obtain rfl:=Option.some.inj H;go_enter Try.func104,Try.ntmps104;go_wp2
  go_ret
  exact ⟨by first|rfl|(simp;done)|(simp only [←hji4] <;>(first|rfl|simp))|(simp [*];done),by repeat (first|exact Drawn0.refl _|apply Drawn0.step)⟩
 ·
  rw [if_neg c3] at H;exact absurd H (by simp)
end Go.Proofs.Ytkgngggppcmpfaa.L
end
section
namespace Go.Proofs.Ytkgngggppcmpfaa.L
open Go.RowKit Go.Proofs.YtkgngggppcmpfaaW.PrintWords Go.Proofs.YtkgngggppcmpfaaW.PrintLast Go.Proofs.YtkgngggppcmpfaaW.PrintMore Go.Proofs.Ytkgngggppcmpfaa.X
attribute [local go_sem] max2_int min2_int max_two min_two max_three min_three max_four min_four
set_option linter.unusedVariables false
set_option linter.unusedSimpArgs false
def impl_items.l0 : Nat → Int → List Int → Int → Option (List Int)
 |0,_,_,_=>none
 |k+1,x0,x3,x6=>if x6<10 then ((impl_has.f x0 x6).bind fun t105=>(if t105=true then (if x3.length<17592186044416 then (impl_items.l0 k x0 (x3++ [x6]) (wrap64 (x6+1))) else (none)) else (impl_items.l0 k x0 x3 (wrap64 (x6+1))))) else (some x3)
def impl_items.f (k : Nat) (a0 : Int) : Option (List Int) := impl_items.l0 k a0 (([] : List Int)) 0
theorem impl_items.mono_l : ∀ k, (∀ y0 y1 y2, LeO (impl_items.l0 k y0 y1 y2) (impl_items.l0 (k + 1) y0 y1 y2))
 |0=>fun _ _ _ r h=>by simp [impl_items.l0] at h
 |k+1=>by
  have ih0:=impl_items.mono_l k
  ·
   intro y0 y1 y2;unfold impl_items.l0
   repeat' first
   |(with_reducible exact ih0 _ _ _)
   |(with_reducible exact LeO.refl _)
   |(with_reducible exact LeO.none _)
   |(with_reducible refine LeO.ite ?_ ?_)
   |(with_reducible refine LeO.bind ?_ (fun _=> ?_))
   |exact ih0 _ _ _
   |exact LeO.none _
   |refine LeO.ite ?_ ?_
   |refine LeO.bind ?_ (fun _=> ?_)
theorem impl_items.mono : ∀ a0 k, LeO (impl_items.f k a0) (impl_items.f (k + 1) a0) := by
 intro a0 k;have ih0:=impl_items.mono_l k;unfold impl_items.f
 repeat' first
  |(with_reducible exact ih0 _ _ _)
  |(with_reducible exact LeO.refl _)
  |(with_reducible exact LeO.none _)
  |(with_reducible refine LeO.ite ?_ ?_)
  |(with_reducible refine LeO.bind ?_ (fun _=> ?_))
  |exact ih0 _ _ _
  |exact LeO.none _
  |refine LeO.ite ?_ ?_
  |refine LeO.bind ?_ (fun _=> ?_)
set_option maxHeartbeats 8000000 in
set_option maxRecDepth 100000 in
theorem impl_items.calls (k : Nat) (a0 : Int) (r : List Int) (w : World) (h : impl_items.f k a0 = some r) :
 Calls Try.prog 116 #[.int .i64 a0] w fun e w'=> ∃ v0_:Value,e= .returned (v0_)∧Kd.R (Kd.int .i64) 3 w' w.heap.size (fun _=>True) v0_ r∧Below w.heap.size w w':=by
 have HB:=Aside0.mk (Below.refl w.heap.size w);have H:(impl_items.l0 k a0 (([] :List Int)) 0)=some r:=h;clear h;obtain ⟨y102,hy102⟩: ∃ y_:List Int,y_=(([] :List Int)):=⟨_,rfl⟩
 replace H:(impl_items.l0 k a0 y102 0)=some r:=by first|(rw [hy102];with_reducible exact H)|(have H2_:=(Option.bind_some _ _).symm.trans H;rw [hy102];with_reducible exact H2_)|(have H2_:=(Option.bind_some _ _).symm.trans H;with_reducible exact H2_)|with_reducible exact H|(rw [hy102];exact H)|exact H
 have Ny102:=Aside0.mk hy102;clear hy102;have H':=Aside0.mk H;clear H;go_enter Try.func116,Try.ntmps116;go_wp2_with (first|((with_reducible refine gate_dst (N:=5) rfl ?_);refine Kd.R_lit (Kd.int .i64) _ 3 ?hg (N:=5) ?hd (xs:=([] :List Int)) (inner:= []) (ok:=fun _=>True) (okp:=fun _=>True) ?hr ?hp (fun _ hk=>hk) trivial (Below.refl _ _) (Nat.le_refl _) (by simp) ?_;(case hd=>rfl);(case hg=>rfl);(case hr=>first|(go_simp;done)|(go_simp;rfl));(case hp=>exact (Reps.none _ _));intro v103 w2 ho3 hb hg_ hnew_;clear hg_ hnew_;(first|rw [←Ny102.out] at ho3|(simp only [Int.reduceToNat] at ho3;rw [←Ny102.out] at ho3));have HO104:=Aside0.mk (Kd.R_lower ho3 (below_size (uB HB)));replace HB:=Aside0.mk (below_step (uB HB) hb);clear hb ho3))
 go_loopg [3,6] k (fun kq v3 v6 w'=> ∃ (x3_1:List Int) (x6_1:Int),v6= .int .i64 x6_1∧Aside0 (impl_items.l0 kq a0 x3_1 x6_1=some r)∧Aside0 (kq≤k)∧Aside0 (Kd.R (Kd.int .i64) 3 w' w.heap.size (fun _=>True) v3 x3_1)∧Aside0 (Below w.heap.size w w'))
 case atStart=>exact ⟨(y102),(0),(by first|rfl|(simp;done)|(simp [*];done)),H',⟨Nat.le_refl _⟩,⟨uR HO104⟩,⟨uB HB⟩⟩
 case round=>
  clear H'
  try clear c1
  try clear p2
  obtain ⟨x3_1,x6_1,rfl,HA,HK1,HO_3,HB⟩:=hrel;cases gk with
  |zero=>exact absurd HA.out (by simp [impl_items.l0])
  |succ k1=>
   have H:=HA.out;clear HA;simp only [impl_items.l0] at H
   by_cases c4:x6_1<10
   ·
    rw [if_pos c4] at H;have c4b0:=decide_eq_true c4;clear c4;obtain ⟨t105,A5,H⟩:=bs H;(try dsimp only at H)
    by_cases c6:t105=true
    ·
     subst c6;rw [if_pos rfl] at H
     by_cases c7:x3_1.length<17592186044416
     ·
      rw [if_pos c7] at H;have LMc7:=Aside0.mk c7;clear c7;obtain ⟨y106,hy106⟩: ∃ y_:List Int,y_=(x3_1++ [x6_1]):=⟨_,rfl⟩
      replace H:(impl_items.l0 k1 a0 y106 (wrap64 (x6_1+1)))=some r:=by first|(rw [hy106];with_reducible exact H)|(have H2_:=(Option.bind_some _ _).symm.trans H;rw [hy106];with_reducible exact H2_)|(have H2_:=(Option.bind_some _ _).symm.trans H;with_reducible exact H2_)|with_reducible exact H|(rw [hy106];exact H)|exact H
      have Ny106:=Aside0.mk hy106;clear hy106;have H':=Aside0.mk H;clear H;go_wp2_with (first|(refine gA (some 11) Try.func104 #[.int .i64 a0, .int .i64 x6_1] ?_;(with_reducible refine (impl_has.calls a0 x6_1 true _ A5.out).mono ?_);rintro e w' ⟨rfl,⟨nd,rfl⟩⟩;refine ⟨_,rfl,?_⟩)|((with_reducible refine gate_builtin (b:= .append) (xs:= #[.tmp 12, .tmp 14]) rfl ?_);at_builtin;refine Kd.R_append (Kd.int .i64) (w0:=w) w.heap.size rfl (.tmp 12) (.tmp 14) 24 3 (.int .i64 0) 8 rfl Try.underlying24 info3 rfl (by decide) (by omega) u3 x3_1 x6_1 [.int .i64 x6_1] (fun _=>True) (fun _=>False) rfl rfl ?aP (fun _ hk=>hk.elim) ?aF ?aO ?aB ?aS ?aL ?_;(case aP=>exact rfl);(case aB=>exact (uB HB));(case aF=>exact (fun _ _=>trivial));(case aO=>exact (uR HO_3));(case aS=>exact (below_size (uB HB)));(case aL=>have:=LMc7.out;omega);intro v107 w8 ho hb hg hat;rw [←Ny106.out] at ho;replace HB:=Aside0.mk (hb);have HO108:=Aside0.mk (ho);clear HO_3;clear ho hb hg hat));go_roundg k1
      case measure=>have:=HK1.out;omega
      case rel=>exact ⟨(y106),(wrap64 (x6_1+1)),(by first|rfl|(simp;done)|(simp [*];done)),H',⟨by have:=HK1.out;omega⟩,⟨uR HO108⟩,⟨uB HB⟩⟩
     ·
      rw [if_neg c7] at H;exact absurd H (by simp)
    ·
     replace c6:=Bool.eq_false_iff.mpr c6;subst c6;rw [if_neg (show ¬ (false=true) by decide)] at H;have H':=Aside0.mk H;clear H;go_wp2_with (first|(refine gA (some 11) Try.func104 #[.int .i64 a0, .int .i64 x6_1] ?_;(with_reducible refine (impl_has.calls a0 x6_1 false _ A5.out).mono ?_);rintro e w' ⟨rfl,⟨nd,rfl⟩⟩;refine ⟨_,rfl,?_⟩));go_roundg k1
     case measure=>have:=HK1.out;omega
     case rel=>exact ⟨(x3_1),(wrap64 (x6_1+1)),(by first|rfl|(simp;done)|(simp [*];done)),H',⟨by have:=HK1.out;omega⟩,⟨uR HO_3⟩,⟨uB HB⟩⟩
   ·
    rw [if_neg c4] at H;have c4b0:=decide_eq_false c4;clear c4;obtain rfl:=Option.some.inj H;go_wp2
    go_ret
    exact ⟨_,by first|rfl|(simp [errW_none,errW_some] <;>rfl)|(simp [*,errW_none,errW_some] <;>rfl),uR HO_3,uB HB⟩
mutual
def impl_IsPoset.l0 : Nat → List Int → Int → Int → List Int → Option (Bool)
 |0,_,_,_,_=>none
 |k+1,x12,x13,x14,x110000=>if x14<x13 then (if 0≤x14 then (if x14<(x12.length:Int) then ((impl_within.f (rd x12 x14) 0 (wrap64 ((shl .i64 1 x14) - 1))).bind fun t113=>(if t113=true then ((impl_items.f k (rd x12 x14)).bind fun t114=>(impl_IsPoset.l1 k (rd x12 x14) x12 x13 x14 t114 (t114.length:Int) 0 x110000)) else (some false))) else (none)) else (none)) else (some true)
def impl_IsPoset.l1 : Nat → Int → List Int → Int → Int → List Int → Int → Int → List Int → Option (Bool)
 |0,_,_,_,_,_,_,_,_=>none
 |k+1,x4,x12,x13,x14,x26,x27,x28,x110000=>if x28<x27 then (if 0≤x28 then (if x28<(x26.length:Int) then (if 0≤(rd x26 x28) then (if (rd x26 x28)<(x110000.length:Int) then (if (Go.bits .andNot .i64 (rd x110000 (rd x26 x28)) x4)=0 then (impl_IsPoset.l1 k x4 x12 x13 x14 x26 x27 (wrap64 (x28+1)) x110000) else (some false)) else (none)) else (none)) else (none)) else (none)) else (impl_IsPoset.l0 k x12 x13 (wrap64 (x14+1)) x110000)
end
def impl_IsPoset.f (k : Nat) (l0_0 : List Int) : Option (Bool) := (impl_Poset_n.f l0_0).bind fun t110 => ((impl_within.f t110 1 10).bind fun t111 => (if t111 = true then (impl_IsPoset.l0 k l0_0 (l0_0.length : Int) 0 l0_0) else (some false)))
theorem impl_IsPoset.mono_l : ∀ k, (∀ y0 y1 y2 y3, LeO (impl_IsPoset.l0 k y0 y1 y2 y3) (impl_IsPoset.l0 (k + 1) y0 y1 y2 y3)) ∧ (∀ y0 y1 y2 y3 y4 y5 y6 y7, LeO (impl_IsPoset.l1 k y0 y1 y2 y3 y4 y5 y6 y7) (impl_IsPoset.l1 (k + 1) y0 y1 y2 y3 y4 y5 y6 y7))
 |0=>⟨fun _ _ _ _ r h=>by simp [impl_IsPoset.l0] at h,fun _ _ _ _ _ _ _ _ r h=>by simp [impl_IsPoset.l1] at h⟩
 |k+1=>by
  obtain ⟨ih0,ih1⟩:=impl_IsPoset.mono_l k;refine ⟨?_,?_⟩
  ·
   intro y0 y1 y2 y3;unfold impl_IsPoset.l0
   repeat' first
   |(with_reducible exact ih0 _ _ _ _)
   |(with_reducible exact ih1 _ _ _ _ _ _ _ _)
   |(with_reducible exact impl_items.mono _ _)
   |(with_reducible exact LeO.refl _)
   |(with_reducible exact LeO.none _)
   |(with_reducible refine LeO.ite ?_ ?_)
   |(with_reducible refine LeO.bind ?_ (fun _=> ?_))
   |exact ih0 _ _ _ _
   |exact ih1 _ _ _ _ _ _ _ _
   |exact impl_items.mono _ _
   |exact LeO.none _
   |refine LeO.ite ?_ ?_
   |refine LeO.bind ?_ (fun _=> ?_)
  ·
   intro y0 y1 y2 y3 y4 y5 y6 y7;unfold impl_IsPoset.l1
   repeat' first
   |(with_reducible exact ih0 _ _ _ _)
   |(with_reducible exact ih1 _ _ _ _ _ _ _ _)
   |(with_reducible exact impl_items.mono _ _)
   |(with_reducible exact LeO.refl _)
   |(with_reducible exact LeO.none _)
   |(with_reducible refine LeO.ite ?_ ?_)
   |(with_reducible refine LeO.bind ?_ (fun _=> ?_))
   |exact ih0 _ _ _ _
   |exact ih1 _ _ _ _ _ _ _ _
   |exact impl_items.mono _ _
   |exact LeO.none _
   |refine LeO.ite ?_ ?_
   |refine LeO.bind ?_ (fun _=> ?_)
theorem impl_IsPoset.mono : ∀ a0 k, LeO (impl_IsPoset.f k a0) (impl_IsPoset.f (k + 1) a0) := by
 intro a0 k;obtain ⟨ih0,ih1⟩:=impl_IsPoset.mono_l k;unfold impl_IsPoset.f
 repeat' first
  |(with_reducible exact ih0 _ _ _ _)
  |(with_reducible exact ih1 _ _ _ _ _ _ _ _)
  |(with_reducible exact impl_items.mono _ _)
  |(with_reducible exact LeO.refl _)
  |(with_reducible exact LeO.none _)
  |(with_reducible refine LeO.ite ?_ ?_)
  |(with_reducible refine LeO.bind ?_ (fun _=> ?_))
  |exact ih0 _ _ _ _
  |exact ih1 _ _ _ _ _ _ _ _
  |exact impl_items.mono _ _
  |exact LeO.none _
  |refine LeO.ite ?_ ?_
  |refine LeO.bind ?_ (fun _=> ?_)
set_option maxHeartbeats 8000000 in
set_option maxRecDepth 100000 in
theorem impl_IsPoset.calls (k : Nat) (A0_0 : Option Addr) (c0_0 : Nat) (l0_0 : List Int) (r : Bool) (w : World) (hr0_0 : Kd.C (Kd.int .i64) w A0_0 l0_0.length l0_0) (hc0_0 : l0_0.length ≤ c0_0) (h : impl_IsPoset.f k l0_0 = some r) :
 Calls Try.prog 75 #[.agg #[.slice A0_0 l0_0.length c0_0]] w fun e w'=>e= .returned (.bool r)∧Below w.heap.size w w':=by
 have hu26:=Try.underlying26;have HR0_0:=Aside0.mk hr0_0;have HC0_0:=Aside0.mk hc0_0;clear hr0_0 hc0_0;have HB:=Aside0.mk (Below.refl w.heap.size w);have H:((impl_Poset_n.f l0_0).bind fun t110=>((impl_within.f t110 1 10).bind fun t111=>(if t111=true then (impl_IsPoset.l0 k l0_0 (l0_0.length:Int) 0 l0_0) else (some false))))=some r:=h;clear h;obtain ⟨t110,A2,H⟩:=bs H;(try dsimp only at H)
 obtain ⟨t111,A3,H⟩:=bs H;(try dsimp only at H)
 by_cases c4:t111=true
 ·
  subst c4;rw [if_pos rfl] at H;have H':=Aside0.mk H;clear H;go_enter Try.func75,Try.ntmps75;go_wp2_with (first|(refine bE (N:=1) (cs:= #[.slice A0_0 l0_0.length c0_0]) (t:=26) ?_;intro gb109 hg w5 hbox hb;have BK109:=Aside0.mk (hbox);have GW109:=Aside0.mk ((by rw [hg];exact (below_size (uB HB)):w.heap.size≤gb109));have GE109:=GW109;replace HB:=Aside0.mk (below_step (uB HB) hb);clear hb hbox hg;have hcz6_0:=bC BK109;have hfz6_0:=blk_frozen BK109.out 0)|(refine gA (some 8) Try.func65 #[.agg #[.slice A0_0 l0_0.length c0_0]] ?_;(with_reducible refine (impl_Poset_n.calls _ _ l0_0 t110 _ (uD HR0_0 HB) HC0_0.out A2.out).mono ?_);rintro e w7 ⟨rfl,hb⟩;refine ⟨_,rfl,?_⟩;replace BK109:=Aside0.mk (blk_below (uK BK109) hb);replace HB:=Aside0.mk (below_step (uB HB) hb);(try clear hb))|(refine gA (some 9) Try.func81 #[.int .i64 t110, .int .i64 1, .int .i64 10] ?_;(with_reducible refine (impl_within.calls t110 1 10 true _ A3.out).mono ?_);rintro e w' ⟨rfl,⟨nd,rfl⟩⟩;refine ⟨_,rfl,?_⟩;have hcz8_0:=bC BK109;have hfz8_0:=blk_frozen BK109.out 0))
  go_loopg [14] k (fun kq v14 w'=> ∃ (x14_1:Int),v14= .int .i64 x14_1∧Aside0 (impl_IsPoset.l0 kq l0_0 (l0_0.length:Int) x14_1 l0_0=some r)∧Aside0 (kq≤k)∧Aside0 (w'.heap[gb109]? =some (.cells #[(.slice A0_0 l0_0.length c0_0)] 26 (0,0)))∧Aside0 (Below w.heap.size w w'))
  case atStart=>exact ⟨(0),(by first|rfl|(simp;done)|(simp [*];done)),H',⟨Nat.le_refl _⟩,⟨uK BK109⟩,⟨uB HB⟩⟩
  case round=>
   clear H'
   try clear p2
   try clear c4
   try clear c6
   try clear c7
   try clear c8
   try clear hcz6_0
   try clear hcz8_0
   try clear hfz6_0
   try clear hfz8_0
   obtain ⟨x14_1,rfl,HA,HK1,BK109,HB⟩:=hrel;cases gk with
   |zero=>exact absurd HA.out (by simp [impl_IsPoset.l0])
   |succ k1=>
    have H:=HA.out;clear HA;simp only [impl_IsPoset.l0] at H
    by_cases c9:x14_1<(l0_0.length:Int)
    ·
     rw [if_pos c9] at H;have c9b0:=decide_eq_true c9;clear c9
     by_cases c10:0≤x14_1
     ·
      rw [if_pos c10] at H;have c10b0:=decide_eq_true c10;clear c10
      by_cases c11:x14_1<(l0_0.length:Int)
      ·
       rw [if_pos c11] at H;have c11b0:=decide_eq_true c11;clear c11;have c12b0:=eq_true (of_decide_eq_true (by first|(with_reducible assumption)|assumption):0≤x14_1);obtain ⟨ji13,hji13⟩: ∃ j_:Int,(shl .i64 1 x14_1)=j_:=⟨_,rfl⟩
       replace H:((impl_within.f (rd l0_0 x14_1) 0 (wrap64 ((ji13) - 1))).bind fun t113=>(if t113=true then ((impl_items.f k1 (rd l0_0 x14_1)).bind fun t114=>(impl_IsPoset.l1 k1 (rd l0_0 x14_1) l0_0 (l0_0.length:Int) x14_1 t114 (t114.length:Int) 0 l0_0)) else (some false)))=some r:=by first|(rw [hji13] at H;exact H)|(simp only [hji13] at H ⊢;exact H)
       have hji13_:(IntKind.i64.wrap (1*2 ^ min x14_1.toNat 64))=ji13:=hji13;have hji13z:x14_1≤64→(IntKind.i64.wrap (1*2 ^ x14_1.toNat))=ji13:=shl_small hji13;have hji13u:(IntKind.i64.wrap (2 ^ min x14_1.toNat 64))=ji13:=by have h_:=hji13_;rw [Int.one_mul] at h_;exact h_
       have hji13v:x14_1≤64→(IntKind.i64.wrap (2 ^ x14_1.toNat))=ji13:=fun hle_=>by have h_:=hji13z hle_;rw [Int.one_mul] at h_;exact h_
       have hji13y:(wrap64 (1*2 ^ min x14_1.toNat 64))=ji13:=(i64_w _).symm.trans hji13_;have hji13x:x14_1≤64→(wrap64 (1*2 ^ x14_1.toNat))=ji13:=fun h_=>(i64_w _).symm.trans (hji13z h_)
       obtain ⟨t113,A14,H⟩:=bs H;(try dsimp only at H)
       by_cases c15:t113=true
       ·
        subst c15;rw [if_pos rfl] at H;obtain ⟨t114,A16,H⟩:=bs H;(try dsimp only at H)
        have H':=Aside0.mk H;clear H;have p112:0≤(x14_1:Int):=of_decide_eq_true (by first|(with_reducible assumption)|assumption);have q112:x14_1<(l0_0.length:Int):=of_decide_eq_true (by first|(with_reducible assumption)|assumption);obtain ⟨ad112,e112,hx112_0⟩:=Kd.at_int HR0_0.out x14_1 p112 q112;cases e112;replace hx112_0:=(HB.out.cell (World.block_lt_of_cell? w _ hx112_0)).trans hx112_0;replace p112:=eq_true p112;replace q112:=eq_true q112;go_wp2_with (first|((with_reducible refine gate_callee (f:=81) rfl ?_);refine goesL_ (some 23) rfl rfl Try.func81 (by kernel_rfl) rfl #[.int .i64 (rd l0_0 x14_1), .int .i64 0, .int .i64 (wrap64 ((ji13) - 1))] rfl (by (try simp only [List.map_toArray,List.map_cons,List.map_nil]);first|done|(simp only [hji13];rfl)|rfl|(simp only [List.length_drop,List.length_take];rfl)) ?_;(with_reducible refine (impl_within.calls (rd l0_0 x14_1) 0 (wrap64 ((ji13) - 1)) true _ A14.out).mono ?_);rintro e w' ⟨rfl,⟨nd,rfl⟩⟩;refine ⟨_,rfl,?_⟩)|(refine gA (some 26) Try.func116 #[.int .i64 (rd l0_0 x14_1)] ?_;(with_reducible refine (impl_items.calls k1 (rd l0_0 x14_1) t114 _ A16.out).mono ?_);rintro e w17 ⟨v115,rfl,ho0,hb⟩;refine ⟨_,rfl,?_⟩;have HO116:=Aside0.mk (Kd.R_lower ho0 (below_size (uB HB)));replace BK109:=Aside0.mk (blk_below (uK BK109) hb);replace HB:=Aside0.mk (below_step (uB HB) hb);(try clear hb ho0);obtain ⟨Ao18,co18,eo18⟩:=Kd.R_slice HO116.out;subst eo18))
        go_loopg [28] k1 (fun kq v28 w'=> ∃ (x28_2:Int),v28= .int .i64 x28_2∧Aside0 (impl_IsPoset.l1 kq (rd l0_0 x14_1) l0_0 (l0_0.length:Int) x14_1 t114 (t114.length:Int) x28_2 l0_0=some r)∧Aside0 (kq≤k1)∧Aside0 (Kd.R (Kd.int .i64) 3 w' w.heap.size (fun _=>True) (.slice Ao18 t114.length co18) t114)∧Aside0 (w'.heap[gb109]? =some (.cells #[(.slice (some ad112) l0_0.length c0_0)] 26 (0,0)))∧Aside0 (Below w.heap.size w w'))
        case atStart=>exact ⟨(0),(by first|rfl|(simp;done)|(simp [*];done)),H',⟨Nat.le_refl _⟩,⟨uR HO116⟩,⟨uK BK109⟩,⟨uB HB⟩⟩
        case round=>
         clear H'
         try clear c1
         try clear p1
         try clear q1
         try clear hx1
         try clear p2
         try clear c4
         try clear c6
         try clear p6
         try clear c7
         try clear c8
         try clear c9
         try clear c9b0
         try clear c10
         try clear c10b0
         try clear c11
         try clear c11b0
         try clear p11
         try clear q11
         try clear hx11
         try clear c12
         try clear c12b0
         try clear c15
         try clear hcz6_0
         try clear hcz8_0
         try clear hfz6_0
         try clear hfz8_0
         try clear hx112_0
         try clear p112
         try clear p2
         try clear q112
         obtain ⟨x28_2,rfl,HA,HK2,HO_26,BK109,HB⟩:=hrel;cases gk with
         |zero=>exact absurd HA.out (by simp [impl_IsPoset.l1])
         |succ k2=>
          have H:=HA.out;clear HA;simp only [impl_IsPoset.l1] at H
          by_cases c19:x28_2<(t114.length:Int)
          ·
           rw [if_pos c19] at H;have c19b0:=decide_eq_true c19;clear c19
           by_cases c20:0≤x28_2
           ·
            rw [if_pos c20] at H;have c20b0:=decide_eq_true c20;clear c20
            by_cases c21:x28_2<(t114.length:Int)
            ·
             rw [if_pos c21] at H;have c21b0:=decide_eq_true c21;clear c21
             by_cases c22:0≤(rd t114 x28_2)
             ·
              rw [if_pos c22] at H;have c22b0:=decide_eq_true c22;clear c22
              by_cases c23:(rd t114 x28_2)<(l0_0.length:Int)
              ·
               rw [if_pos c23] at H;have c23b0:=decide_eq_true c23;clear c23
               by_cases c24:(Go.bits .andNot .i64 (rd l0_0 (rd t114 x28_2)) (rd l0_0 x14_1))=0
               ·
                rw [if_pos c24] at H;have c24b0:((Go.bits .andNot .i64 (rd l0_0 (rd t114 x28_2)) (rd l0_0 x14_1))==0)=true:=beq_iff_eq.mpr c24;have c24b1:((Go.bits .andNot .i64 (rd l0_0 (rd t114 x28_2)) (rd l0_0 x14_1)) !=0)=false:=bne_eq_false_iff_eq.mpr c24;clear c24;have H':=Aside0.mk H;clear H;have p117:0≤(x28_2:Int):=of_decide_eq_true (by first|(with_reducible assumption)|assumption);have q117:x28_2<(t114.length:Int):=of_decide_eq_true (by first|(with_reducible assumption)|assumption);obtain ⟨ad117,e117,hx117_0⟩:=Kd.at_int (Kd.R_reads' HO_26.out).2.2 x28_2 p117 q117;cases e117;replace p117:=eq_true p117;replace q117:=eq_true q117;have hcz25_0:=bC BK109;have hfz25_0:=blk_frozen BK109.out 0;have p118:0≤((rd t114 x28_2):Int):=of_decide_eq_true (by first|(with_reducible assumption)|assumption);have q118:(rd t114 x28_2)<(l0_0.length:Int):=of_decide_eq_true (by first|(with_reducible assumption)|assumption);obtain ⟨ad118,e118,hx118_0⟩:=Kd.at_int HR0_0.out (rd t114 x28_2) p118 q118;obtain rfl:ad112=ad118:=(by injection e118)
                replace hx118_0:=(HB.out.cell (World.block_lt_of_cell? w _ hx118_0)).trans hx118_0;replace p118:=eq_true p118;replace q118:=eq_true q118;go_wp2;go_roundg k2
                case measure=>have:=HK1.out;have:=HK2.out;omega
                case rel=>exact ⟨(wrap64 (x28_2+1)),(by first|rfl|(simp;done)|(simp [*];done)),H',⟨by have:=HK1.out;have:=HK2.out;omega⟩,⟨uR HO_26⟩,⟨uK BK109⟩,⟨uB HB⟩⟩
               ·
                rw [if_neg c24] at H;have c24b0:((Go.bits .andNot .i64 (rd l0_0 (rd t114 x28_2)) (rd l0_0 x14_1))==0)=false:=beq_eq_false_iff_ne.mpr c24;have c24b1:((Go.bits .andNot .i64 (rd l0_0 (rd t114 x28_2)) (rd l0_0 x14_1)) !=0)=true:=bne_iff_ne.mpr c24;obtain rfl:=Option.some.inj H;have p117:0≤(x28_2:Int):=of_decide_eq_true (by first|(with_reducible assumption)|assumption);have q117:x28_2<(t114.length:Int):=of_decide_eq_true (by first|(with_reducible assumption)|assumption);obtain ⟨ad117,e117,hx117_0⟩:=Kd.at_int (Kd.R_reads' HO_26.out).2.2 x28_2 p117 q117;cases e117;replace p117:=eq_true p117;replace q117:=eq_true q117;have hcz26_0:=bC BK109;have hfz26_0:=blk_frozen BK109.out 0;have p118:0≤((rd t114 x28_2):Int):=of_decide_eq_true (by first|(with_reducible assumption)|assumption);have q118:(rd t114 x28_2)<(l0_0.length:Int):=of_decide_eq_true (by first|(with_reducible assumption)|assumption);obtain ⟨ad118,e118,hx118_0⟩:=Kd.at_int HR0_0.out (rd t114 x28_2) p118 q118;obtain rfl:ad112=ad118:=(by injection e118)
                replace hx118_0:=(HB.out.cell (World.block_lt_of_cell? w _ hx118_0)).trans hx118_0;replace p118:=eq_true p118;replace q118:=eq_true q118;go_wp2
                go_ret
                exact ⟨by first|rfl|(simp [errW_none,errW_some] <;>rfl)|(simp only [←hji13];first|rfl|(simp [errW_none,errW_some] <;>rfl))|(simp [*,errW_none,errW_some] <;>rfl),uB HB⟩
              ·
               rw [if_neg c23] at H;exact absurd H (by simp)
             ·
              rw [if_neg c22] at H;exact absurd H (by simp)
            ·
             rw [if_neg c21] at H;exact absurd H (by simp)
           ·
            rw [if_neg c20] at H;exact absurd H (by simp)
          ·
           rw [if_neg c19] at H;have c19b0:=decide_eq_false c19;clear c19;have H':=Aside0.mk H;clear H;go_wp2;go_roundg k2
           case measure=>have:=HK1.out;have:=HK2.out;omega
           case rel=>exact ⟨(wrap64 (x14_1+1)),(by first|rfl|(simp;done)|(simp [*];done)),H',⟨by have:=HK1.out;have:=HK2.out;omega⟩,⟨uK BK109⟩,⟨uB HB⟩⟩
       ·
        replace c15:=Bool.eq_false_iff.mpr c15;subst c15;rw [if_neg (show ¬ (false=true) by decide)] at H;obtain rfl:=Option.some.inj H;have p112:0≤(x14_1:Int):=of_decide_eq_true (by first|(with_reducible assumption)|assumption);have q112:x14_1<(l0_0.length:Int):=of_decide_eq_true (by first|(with_reducible assumption)|assumption);obtain ⟨ad112,e112,hx112_0⟩:=Kd.at_int HR0_0.out x14_1 p112 q112;cases e112;replace hx112_0:=(HB.out.cell (World.block_lt_of_cell? w _ hx112_0)).trans hx112_0;replace p112:=eq_true p112;replace q112:=eq_true q112;go_wp2_with (first|((with_reducible refine gate_callee (f:=81) rfl ?_);refine goesL_ (some 23) rfl rfl Try.func81 (by kernel_rfl) rfl #[.int .i64 (rd l0_0 x14_1), .int .i64 0, .int .i64 (wrap64 ((ji13) - 1))] rfl (by (try simp only [List.map_toArray,List.map_cons,List.map_nil]);first|done|(simp only [hji13];rfl)|rfl|(simp only [List.length_drop,List.length_take];rfl)) ?_;(with_reducible refine (impl_within.calls (rd l0_0 x14_1) 0 (wrap64 ((ji13) - 1)) false _ A14.out).mono ?_);rintro e w' ⟨rfl,⟨nd,rfl⟩⟩;refine ⟨_,rfl,?_⟩))
        go_ret
        exact ⟨by first|rfl|(simp [errW_none,errW_some] <;>rfl)|(simp only [←hji13];first|rfl|(simp [errW_none,errW_some] <;>rfl))|(simp [*,errW_none,errW_some] <;>rfl),uB HB⟩
      ·
       rw [if_neg c11] at H;exact absurd H (by simp)
     ·
      rw [if_neg c10] at H;exact absurd H (by simp)
    ·
     rw [if_neg c9] at H;have c9b0:=decide_eq_false c9;clear c9;obtain rfl:=Option.some.inj H;go_wp2
     go_ret
     exact ⟨by first|rfl|(simp [errW_none,errW_some] <;>rfl)|(simp [*,errW_none,errW_some] <;>rfl),uB HB⟩
 ·
  replace c4:=Bool.eq_false_iff.mpr c4;subst c4;rw [if_neg (show ¬ (false=true) by decide)] at H;obtain rfl:=Option.some.inj H;go_enter Try.func75,Try.ntmps75;go_wp2_with (first|(refine bE (N:=1) (cs:= #[.slice A0_0 l0_0.length c0_0]) (t:=26) ?_;intro gb109 hg w27 hbox hb;have BK109:=Aside0.mk (hbox);have GW109:=Aside0.mk ((by rw [hg];exact (below_size (uB HB)):w.heap.size≤gb109));have GE109:=GW109;replace HB:=Aside0.mk (below_step (uB HB) hb);clear hb hbox hg;have hcz28_0:=bC BK109;have hfz28_0:=blk_frozen BK109.out 0)|(refine gA (some 8) Try.func65 #[.agg #[.slice A0_0 l0_0.length c0_0]] ?_;(with_reducible refine (impl_Poset_n.calls _ _ l0_0 t110 _ (uD HR0_0 HB) HC0_0.out A2.out).mono ?_);rintro e w29 ⟨rfl,hb⟩;refine ⟨_,rfl,?_⟩;replace BK109:=Aside0.mk (blk_below (uK BK109) hb);replace HB:=Aside0.mk (below_step (uB HB) hb);(try clear hb))|(refine gA (some 9) Try.func81 #[.int .i64 t110, .int .i64 1, .int .i64 10] ?_;(with_reducible refine (impl_within.calls t110 1 10 false _ A3.out).mono ?_);rintro e w' ⟨rfl,⟨nd,rfl⟩⟩;refine ⟨_,rfl,?_⟩))
  go_ret
  exact ⟨by first|rfl|(simp [errW_none,errW_some] <;>rfl)|(simp [*,errW_none,errW_some] <;>rfl),uB HB⟩
def impl_isHigh.f (k : Nat) (l0_0 : List Int) (a1 : Int) : Option (Bool) := (impl_IsPoset.f k l0_0).bind fun t120 => (if t120 = true then ((impl_within.f a1 0 20).bind fun t121 => (some t121)) else (some false))
theorem impl_isHigh.mono : ∀ a0 a1 k, LeO (impl_isHigh.f k a0 a1) (impl_isHigh.f (k + 1) a0 a1) := by
 intro a0 a1 k;unfold impl_isHigh.f
 repeat' first
  |(with_reducible exact impl_IsPoset.mono _ _)
  |(with_reducible exact LeO.refl _)
  |(with_reducible exact LeO.none _)
  |(with_reducible refine LeO.ite ?_ ?_)
  |(with_reducible refine LeO.bind ?_ (fun _=> ?_))
  |exact impl_IsPoset.mono _ _
  |exact LeO.none _
  |refine LeO.ite ?_ ?_
  |refine LeO.bind ?_ (fun _=> ?_)
set_option maxHeartbeats 8000000 in
set_option maxRecDepth 100000 in
theorem impl_isHigh.calls (k : Nat) (A0_0 : Option Addr) (c0_0 : Nat) (l0_0 : List Int) (a1 : Int) (r : Bool) (w : World) (hr0_0 : Kd.C (Kd.int .i64) w A0_0 l0_0.length l0_0) (hc0_0 : l0_0.length ≤ c0_0) (h : impl_isHigh.f k l0_0 a1 = some r) :
 Calls Try.prog 77 #[.agg #[.slice A0_0 l0_0.length c0_0], .int .i64 a1] w fun e w'=>e= .returned (.bool r)∧Below w.heap.size w w':=by
 have hu26:=Try.underlying26;have HR0_0:=Aside0.mk hr0_0;have HC0_0:=Aside0.mk hc0_0;clear hr0_0 hc0_0;have HB:=Aside0.mk (Below.refl w.heap.size w);have H:((impl_IsPoset.f k l0_0).bind fun t120=>(if t120=true then ((impl_within.f a1 0 20).bind fun t121=>(some t121)) else (some false)))=some r:=h;clear h;obtain ⟨t120,A3,H⟩:=bs H;(try dsimp only at H)
 by_cases c4:t120=true
 ·
  subst c4;rw [if_pos rfl] at H;obtain ⟨t121,A5,H⟩:=bs H;(try dsimp only at H)
  obtain rfl:=Option.some.inj H;go_enter Try.func77,Try.ntmps77;go_wp2_with (first|(refine bE (N:=2) (cs:= #[.slice A0_0 l0_0.length c0_0]) (t:=26) ?_;intro gb119 hg w6 hbox hb;have BK119:=Aside0.mk (hbox);have GW119:=Aside0.mk ((by rw [hg];exact (below_size (uB HB)):w.heap.size≤gb119));have GE119:=GW119;replace HB:=Aside0.mk (below_step (uB HB) hb);clear hb hbox hg;have hcz7_0:=bC BK119;have hfz7_0:=blk_frozen BK119.out 0)|(refine gA (some 6) Try.func75 #[.agg #[.slice A0_0 l0_0.length c0_0]] ?_;(with_reducible refine (impl_IsPoset.calls k _ _ l0_0 true _ (uD HR0_0 HB) HC0_0.out A3.out).mono ?_);rintro e w8 ⟨rfl,hb⟩;refine ⟨_,rfl,?_⟩;replace BK119:=Aside0.mk (blk_below (uK BK119) hb);replace HB:=Aside0.mk (below_step (uB HB) hb);(try clear hb))|(go_at_call 81;(with_reducible refine (impl_within.calls a1 0 20 t121 _ A5.out).mono ?_);rintro e w' ⟨rfl,⟨nd,rfl⟩⟩))
  go_ret
  exact ⟨by first|rfl|(simp [errW_none,errW_some] <;>rfl)|(simp [*,errW_none,errW_some] <;>rfl),uB HB⟩
 ·
  replace c4:=Bool.eq_false_iff.mpr c4;subst c4;rw [if_neg (show ¬ (false=true) by decide)] at H;obtain rfl:=Option.some.inj H;go_enter Try.func77,Try.ntmps77;go_wp2_with (first|(refine bE (N:=2) (cs:= #[.slice A0_0 l0_0.length c0_0]) (t:=26) ?_;intro gb119 hg w9 hbox hb;have BK119:=Aside0.mk (hbox);have GW119:=Aside0.mk ((by rw [hg];exact (below_size (uB HB)):w.heap.size≤gb119));have GE119:=GW119;replace HB:=Aside0.mk (below_step (uB HB) hb);clear hb hbox hg;have hcz10_0:=bC BK119;have hfz10_0:=blk_frozen BK119.out 0)|(refine gA (some 6) Try.func75 #[.agg #[.slice A0_0 l0_0.length c0_0]] ?_;(with_reducible refine (impl_IsPoset.calls k _ _ l0_0 false _ (uD HR0_0 HB) HC0_0.out A3.out).mono ?_);rintro e w11 ⟨rfl,hb⟩;refine ⟨_,rfl,?_⟩;replace BK119:=Aside0.mk (blk_below (uK BK119) hb);replace HB:=Aside0.mk (below_step (uB HB) hb);(try clear hb)))
  go_ret
  exact ⟨by first|rfl|(simp [errW_none,errW_some] <;>rfl)|(simp [*,errW_none,errW_some] <;>rfl),uB HB⟩
mutual
def impl_Poset_areLabels.l0 : Nat → List Int → Int → Int → List Int → Int → Int → List Int → Option (Bool)
 |0,_,_,_,_,_,_,_=>none
 |k+1,x1,x2,x3,x18,x19,x20,x123000=>if x20<x19 then (if 0≤x20 then (if x20<(x18.length:Int) then ((impl_within.f (rd x18 x20) 0 x2).bind fun t125=>(if t125=true then (if x20<(x123000.length:Int) then ((impl_items.f k (rd x123000 x20)).bind fun t127=>(impl_Poset_areLabels.l1 k x1 x2 x3 (rd x18 x20) x18 x19 x20 t127 (t127.length:Int) 0 x123000)) else (none)) else (some false))) else (none)) else (none)) else (some true)
def impl_Poset_areLabels.l1 : Nat → List Int → Int → Int → Int → List Int → Int → Int → List Int → Int → Int → List Int → Option (Bool)
 |0,_,_,_,_,_,_,_,_,_,_,_=>none
 |k+1,x1,x2,x3,x10,x18,x19,x20,x34,x35,x36,x123000=>if x36<x35 then (if 0≤x36 then (if x36<(x34.length:Int) then (if 0≤(rd x34 x36) then (if (rd x34 x36)<(x1.length:Int) then (if x10<(wrap64 ((rd x1 (rd x34 x36))+x3)) then (some false) else (impl_Poset_areLabels.l1 k x1 x2 x3 x10 x18 x19 x20 x34 x35 (wrap64 (x36+1)) x123000)) else (none)) else (none)) else (none)) else (none)) else (impl_Poset_areLabels.l0 k x1 x2 x3 x18 x19 (wrap64 (x20+1)) x123000)
end
def impl_Poset_areLabels.f (k : Nat) (l0_0 : List Int) (l1 : List Int) (a2 : Int) (a3 : Int) : Option (Bool) := (impl_Poset_n.f l0_0).bind fun t123 => (if (l1.length : Int) = t123 then (impl_Poset_areLabels.l0 k l1 a2 a3 l1 (l1.length : Int) 0 l0_0) else (some false))
theorem impl_Poset_areLabels.mono_l : ∀ k, (∀ y0 y1 y2 y3 y4 y5 y6, LeO (impl_Poset_areLabels.l0 k y0 y1 y2 y3 y4 y5 y6) (impl_Poset_areLabels.l0 (k + 1) y0 y1 y2 y3 y4 y5 y6)) ∧ (∀ y0 y1 y2 y3 y4 y5 y6 y7 y8 y9 y10, LeO (impl_Poset_areLabels.l1 k y0 y1 y2 y3 y4 y5 y6 y7 y8 y9 y10) (impl_Poset_areLabels.l1 (k + 1) y0 y1 y2 y3 y4 y5 y6 y7 y8 y9 y10))
 |0=>⟨fun _ _ _ _ _ _ _ r h=>by simp [impl_Poset_areLabels.l0] at h,fun _ _ _ _ _ _ _ _ _ _ _ r h=>by simp [impl_Poset_areLabels.l1] at h⟩
 |k+1=>by
  obtain ⟨ih0,ih1⟩:=impl_Poset_areLabels.mono_l k;refine ⟨?_,?_⟩
  ·
   intro y0 y1 y2 y3 y4 y5 y6;unfold impl_Poset_areLabels.l0
   repeat' first
   |(with_reducible exact ih0 _ _ _ _ _ _ _)
   |(with_reducible exact ih1 _ _ _ _ _ _ _ _ _ _ _)
   |(with_reducible exact impl_items.mono _ _)
   |(with_reducible exact LeO.refl _)
   |(with_reducible exact LeO.none _)
   |(with_reducible refine LeO.ite ?_ ?_)
   |(with_reducible refine LeO.bind ?_ (fun _=> ?_))
   |exact ih0 _ _ _ _ _ _ _
   |exact ih1 _ _ _ _ _ _ _ _ _ _ _
   |exact impl_items.mono _ _
   |exact LeO.none _
   |refine LeO.ite ?_ ?_
   |refine LeO.bind ?_ (fun _=> ?_)
  ·
   intro y0 y1 y2 y3 y4 y5 y6 y7 y8 y9 y10;unfold impl_Poset_areLabels.l1
   repeat' first
   |(with_reducible exact ih0 _ _ _ _ _ _ _)
   |(with_reducible exact ih1 _ _ _ _ _ _ _ _ _ _ _)
   |(with_reducible exact impl_items.mono _ _)
   |(with_reducible exact LeO.refl _)
   |(with_reducible exact LeO.none _)
   |(with_reducible refine LeO.ite ?_ ?_)
   |(with_reducible refine LeO.bind ?_ (fun _=> ?_))
   |exact ih0 _ _ _ _ _ _ _
   |exact ih1 _ _ _ _ _ _ _ _ _ _ _
   |exact impl_items.mono _ _
   |exact LeO.none _
   |refine LeO.ite ?_ ?_
   |refine LeO.bind ?_ (fun _=> ?_)
theorem impl_Poset_areLabels.mono : ∀ a0 a1 a2 a3 k, LeO (impl_Poset_areLabels.f k a0 a1 a2 a3) (impl_Poset_areLabels.f (k + 1) a0 a1 a2 a3) := by
 intro a0 a1 a2 a3 k;obtain ⟨ih0,ih1⟩:=impl_Poset_areLabels.mono_l k;unfold impl_Poset_areLabels.f
 repeat' first
  |(with_reducible exact ih0 _ _ _ _ _ _ _)
  |(with_reducible exact ih1 _ _ _ _ _ _ _ _ _ _ _)
  |(with_reducible exact impl_items.mono _ _)
  |(with_reducible exact LeO.refl _)
  |(with_reducible exact LeO.none _)
  |(with_reducible refine LeO.ite ?_ ?_)
  |(with_reducible refine LeO.bind ?_ (fun _=> ?_))
  |exact ih0 _ _ _ _ _ _ _
  |exact ih1 _ _ _ _ _ _ _ _ _ _ _
  |exact impl_items.mono _ _
  |exact LeO.none _
  |refine LeO.ite ?_ ?_
  |refine LeO.bind ?_ (fun _=> ?_)
set_option maxHeartbeats 8000000 in
set_option maxRecDepth 100000 in
theorem impl_Poset_areLabels.calls (k : Nat) (A0_0 : Option Addr) (c0_0 : Nat) (l0_0 : List Int) (A1 : Option Addr) (c1 : Nat) (l1 : List Int) (a2 : Int) (a3 : Int) (r : Bool) (w : World) (hr0_0 : Kd.C (Kd.int .i64) w A0_0 l0_0.length l0_0) (hc0_0 : l0_0.length ≤ c0_0) (hr1 : Kd.C (Kd.int .i64) w A1 l1.length l1) (hc1 : l1.length ≤ c1) (h : impl_Poset_areLabels.f k l0_0 l1 a2 a3 = some r) :
 Calls Try.prog 78 #[.agg #[.slice A0_0 l0_0.length c0_0], .slice A1 l1.length c1, .int .i64 a2, .int .i64 a3] w fun e w'=>e= .returned (.bool r)∧Below w.heap.size w w':=by
 have hu26:=Try.underlying26;have HR0_0:=Aside0.mk hr0_0;have HC0_0:=Aside0.mk hc0_0;clear hr0_0 hc0_0;have HR1:=Aside0.mk hr1;have HC1:=Aside0.mk hc1;clear hr1 hc1;have HB:=Aside0.mk (Below.refl w.heap.size w);have H:((impl_Poset_n.f l0_0).bind fun t123=>(if (l1.length:Int)=t123 then (impl_Poset_areLabels.l0 k l1 a2 a3 l1 (l1.length:Int) 0 l0_0) else (some false)))=some r:=h;clear h;obtain ⟨t123,A5,H⟩:=bs H;(try dsimp only at H)
 by_cases c6:(l1.length:Int)=t123
 ·
  rw [if_pos c6] at H;have c6b0:((l1.length:Int)==t123)=true:=beq_iff_eq.mpr c6;have c6b1:((l1.length:Int) !=t123)=false:=bne_eq_false_iff_eq.mpr c6;clear c6;have H':=Aside0.mk H;clear H;go_enter Try.func78,Try.ntmps78;go_wp2_with (first|(refine bE (N:=4) (cs:= #[.slice A0_0 l0_0.length c0_0]) (t:=26) ?_;intro gb122 hg w7 hbox hb;have BK122:=Aside0.mk (hbox);have GW122:=Aside0.mk ((by rw [hg];exact (below_size (uB HB)):w.heap.size≤gb122));have GE122:=GW122;replace HB:=Aside0.mk (below_step (uB HB) hb);clear hb hbox hg;have hcz8_0:=bC BK122;have hfz8_0:=blk_frozen BK122.out 0)|(refine gA (some 16) Try.func65 #[.agg #[.slice A0_0 l0_0.length c0_0]] ?_;(with_reducible refine (impl_Poset_n.calls _ _ l0_0 t123 _ (uD HR0_0 HB) HC0_0.out A5.out).mono ?_);rintro e w9 ⟨rfl,hb⟩;refine ⟨_,rfl,?_⟩;replace BK122:=Aside0.mk (blk_below (uK BK122) hb);replace HB:=Aside0.mk (below_step (uB HB) hb);(try clear hb)))
  go_loopg [20] k (fun kq v20 w'=> ∃ (x20_1:Int),v20= .int .i64 x20_1∧Aside0 (impl_Poset_areLabels.l0 kq l1 a2 a3 l1 (l1.length:Int) x20_1 l0_0=some r)∧Aside0 (kq≤k)∧Aside0 (w'.heap[gb122]? =some (.cells #[(.slice A0_0 l0_0.length c0_0)] 26 (0,0)))∧Aside0 (Below w.heap.size w w'))
  case atStart=>exact ⟨(0),(by first|rfl|(simp;done)|(simp [*];done)),H',⟨Nat.le_refl _⟩,⟨uK BK122⟩,⟨uB HB⟩⟩
  case round=>
   clear H'
   try clear c1
   try clear p2
   try clear c6
   try clear c6b0
   try clear c6b1
   try clear c7
   try clear hcz8_0
   try clear hfz8_0
   obtain ⟨x20_1,rfl,HA,HK1,BK122,HB⟩:=hrel;cases gk with
   |zero=>exact absurd HA.out (by simp [impl_Poset_areLabels.l0])
   |succ k1=>
    have H:=HA.out;clear HA;simp only [impl_Poset_areLabels.l0] at H
    by_cases c10:x20_1<(l1.length:Int)
    ·
     rw [if_pos c10] at H;have c10b0:=decide_eq_true c10;clear c10
     by_cases c11:0≤x20_1
     ·
      rw [if_pos c11] at H;have c11b0:=decide_eq_true c11;clear c11
      by_cases c12:x20_1<(l1.length:Int)
      ·
       rw [if_pos c12] at H;have c12b0:=decide_eq_true c12;clear c12;obtain ⟨t125,A13,H⟩:=bs H;(try dsimp only at H)
       by_cases c14:t125=true
       ·
        subst c14;rw [if_pos rfl] at H
        by_cases c15:x20_1<(l0_0.length:Int)
        ·
         rw [if_pos c15] at H;have c15b0:=decide_eq_true c15;clear c15;obtain ⟨t127,A16,H⟩:=bs H;(try dsimp only at H)
         have H':=Aside0.mk H;clear H;have p124:0≤(x20_1:Int):=of_decide_eq_true (by first|(with_reducible assumption)|assumption);have q124:x20_1<(l1.length:Int):=of_decide_eq_true (by first|(with_reducible assumption)|assumption);obtain ⟨ad124,e124,hx124_0⟩:=Kd.at_int HR1.out x20_1 p124 q124;cases e124;replace hx124_0:=(HB.out.cell (World.block_lt_of_cell? w _ hx124_0)).trans hx124_0;replace p124:=eq_true p124;replace q124:=eq_true q124;go_wp2_with (first|(refine gA (some 27) Try.func81 #[.int .i64 (rd l1 x20_1), .int .i64 0, .int .i64 a2] ?_;(with_reducible refine (impl_within.calls (rd l1 x20_1) 0 a2 true _ A13.out).mono ?_);rintro e w' ⟨rfl,⟨nd,rfl⟩⟩;refine ⟨_,rfl,?_⟩;have hcz17_0:=bC BK122;have hfz17_0:=blk_frozen BK122.out 0;have p126:0≤(x20_1:Int):=of_decide_eq_true (by first|(with_reducible assumption)|assumption);have q126:x20_1<(l0_0.length:Int):=of_decide_eq_true (by first|(with_reducible assumption)|assumption);obtain ⟨ad126,e126,hx126_0⟩:=Kd.at_int HR0_0.out x20_1 p126 q126;cases e126;replace hx126_0:=(HB.out.cell (World.block_lt_of_cell? w _ hx126_0)).trans hx126_0;replace p126:=eq_true p126;replace q126:=eq_true q126)|(refine gA (some 34) Try.func116 #[.int .i64 (rd l0_0 x20_1)] ?_;(with_reducible refine (impl_items.calls k1 (rd l0_0 x20_1) t127 _ A16.out).mono ?_);rintro e w18 ⟨v128,rfl,ho0,hb⟩;refine ⟨_,rfl,?_⟩;have HO129:=Aside0.mk (Kd.R_lower ho0 (below_size (uB HB)));replace BK122:=Aside0.mk (blk_below (uK BK122) hb);replace HB:=Aside0.mk (below_step (uB HB) hb);(try clear hb ho0);obtain ⟨Ao19,co19,eo19⟩:=Kd.R_slice HO129.out;subst eo19))
         go_loopg [36] k1 (fun kq v36 w'=> ∃ (x36_2:Int),v36= .int .i64 x36_2∧Aside0 (impl_Poset_areLabels.l1 kq l1 a2 a3 (rd l1 x20_1) l1 (l1.length:Int) x20_1 t127 (t127.length:Int) x36_2 l0_0=some r)∧Aside0 (kq≤k1)∧Aside0 (Kd.R (Kd.int .i64) 3 w' w.heap.size (fun _=>True) (.slice Ao19 t127.length co19) t127)∧Aside0 (w'.heap[gb122]? =some (.cells #[(.slice (some ad126) l0_0.length c0_0)] 26 (0,0)))∧Aside0 (Below w.heap.size w w'))
         case atStart=>exact ⟨(0),(by first|rfl|(simp;done)|(simp [*];done)),H',⟨Nat.le_refl _⟩,⟨uR HO129⟩,⟨uK BK122⟩,⟨uB HB⟩⟩
         case round=>
          clear H'
          try clear c1
          try clear p1
          try clear q1
          try clear hx1
          try clear p2
          try clear c6
          try clear c6b0
          try clear c6b1
          try clear c7
          try clear c8
          try clear c10
          try clear c10b0
          try clear c11
          try clear c11b0
          try clear c12
          try clear c12b0
          try clear p12
          try clear q12
          try clear hx12
          try clear c14
          try clear c15
          try clear c15b0
          try clear hcz17_0
          try clear hcz8_0
          try clear hfz17_0
          try clear hfz8_0
          try clear hx124_0
          try clear hx126_0
          try clear p124
          try clear p126
          try clear p2
          try clear q124
          try clear q126
          obtain ⟨x36_2,rfl,HA,HK2,HO_34,BK122,HB⟩:=hrel;cases gk with
          |zero=>exact absurd HA.out (by simp [impl_Poset_areLabels.l1])
          |succ k2=>
           have H:=HA.out;clear HA;simp only [impl_Poset_areLabels.l1] at H
           by_cases c20:x36_2<(t127.length:Int)
           ·
            rw [if_pos c20] at H;have c20b0:=decide_eq_true c20;clear c20
            by_cases c21:0≤x36_2
            ·
             rw [if_pos c21] at H;have c21b0:=decide_eq_true c21;clear c21
             by_cases c22:x36_2<(t127.length:Int)
             ·
              rw [if_pos c22] at H;have c22b0:=decide_eq_true c22;clear c22
              by_cases c23:0≤(rd t127 x36_2)
              ·
               rw [if_pos c23] at H;have c23b0:=decide_eq_true c23;clear c23
               by_cases c24:(rd t127 x36_2)<(l1.length:Int)
               ·
                rw [if_pos c24] at H;have c24b0:=decide_eq_true c24;clear c24
                by_cases c25:(rd l1 x20_1)<(wrap64 ((rd l1 (rd t127 x36_2))+a3))
                ·
                 rw [if_pos c25] at H;have c25b0:=decide_eq_true c25;clear c25;obtain rfl:=Option.some.inj H;have p130:0≤(x36_2:Int):=of_decide_eq_true (by first|(with_reducible assumption)|assumption);have q130:x36_2<(t127.length:Int):=of_decide_eq_true (by first|(with_reducible assumption)|assumption);obtain ⟨ad130,e130,hx130_0⟩:=Kd.at_int (Kd.R_reads' HO_34.out).2.2 x36_2 p130 q130;cases e130;replace p130:=eq_true p130;replace q130:=eq_true q130;have p131:0≤((rd t127 x36_2):Int):=of_decide_eq_true (by first|(with_reducible assumption)|assumption);have q131:(rd t127 x36_2)<(l1.length:Int):=of_decide_eq_true (by first|(with_reducible assumption)|assumption);obtain ⟨ad131,e131,hx131_0⟩:=Kd.at_int HR1.out (rd t127 x36_2) p131 q131;obtain rfl:ad124=ad131:=(by injection e131)
                 replace hx131_0:=(HB.out.cell (World.block_lt_of_cell? w _ hx131_0)).trans hx131_0;replace p131:=eq_true p131;replace q131:=eq_true q131;go_wp2
                 go_ret
                 exact ⟨by first|rfl|(simp [errW_none,errW_some] <;>rfl)|(simp [*,errW_none,errW_some] <;>rfl),uB HB⟩
                ·
                 rw [if_neg c25] at H;have c25b0:=decide_eq_false c25;clear c25;have H':=Aside0.mk H;clear H;have p130:0≤(x36_2:Int):=of_decide_eq_true (by first|(with_reducible assumption)|assumption);have q130:x36_2<(t127.length:Int):=of_decide_eq_true (by first|(with_reducible assumption)|assumption);obtain ⟨ad130,e130,hx130_0⟩:=Kd.at_int (Kd.R_reads' HO_34.out).2.2 x36_2 p130 q130;cases e130;replace p130:=eq_true p130;replace q130:=eq_true q130;have p131:0≤((rd t127 x36_2):Int):=of_decide_eq_true (by first|(with_reducible assumption)|assumption);have q131:(rd t127 x36_2)<(l1.length:Int):=of_decide_eq_true (by first|(with_reducible assumption)|assumption);obtain ⟨ad131,e131,hx131_0⟩:=Kd.at_int HR1.out (rd t127 x36_2) p131 q131;obtain rfl:ad124=ad131:=(by injection e131)
                 replace hx131_0:=(HB.out.cell (World.block_lt_of_cell? w _ hx131_0)).trans hx131_0;replace p131:=eq_true p131;replace q131:=eq_true q131;go_wp2;go_roundg k2
                 case measure=>have:=HK1.out;have:=HK2.out;omega
                 case rel=>exact ⟨(wrap64 (x36_2+1)),(by first|rfl|(simp;done)|(simp [*];done)),H',⟨by have:=HK1.out;have:=HK2.out;omega⟩,⟨uR HO_34⟩,⟨uK BK122⟩,⟨uB HB⟩⟩
               ·
                rw [if_neg c24] at H;exact absurd H (by simp)
              ·
               rw [if_neg c23] at H;exact absurd H (by simp)
             ·
              rw [if_neg c22] at H;exact absurd H (by simp)
            ·
             rw [if_neg c21] at H;exact absurd H (by simp)
           ·
            rw [if_neg c20] at H;have c20b0:=decide_eq_false c20;clear c20;have H':=Aside0.mk H;clear H;go_wp2;go_roundg k2
            case measure=>have:=HK1.out;have:=HK2.out;omega
            case rel=>exact ⟨(wrap64 (x20_1+1)),(by first|rfl|(simp;done)|(simp [*];done)),H',⟨by have:=HK1.out;have:=HK2.out;omega⟩,⟨uK BK122⟩,⟨uB HB⟩⟩
        ·
         rw [if_neg c15] at H;exact absurd H (by simp)
       ·
        replace c14:=Bool.eq_false_iff.mpr c14;subst c14;rw [if_neg (show ¬ (false=true) by decide)] at H;obtain rfl:=Option.some.inj H;have p124:0≤(x20_1:Int):=of_decide_eq_true (by first|(with_reducible assumption)|assumption);have q124:x20_1<(l1.length:Int):=of_decide_eq_true (by first|(with_reducible assumption)|assumption);obtain ⟨ad124,e124,hx124_0⟩:=Kd.at_int HR1.out x20_1 p124 q124;cases e124;replace hx124_0:=(HB.out.cell (World.block_lt_of_cell? w _ hx124_0)).trans hx124_0;replace p124:=eq_true p124;replace q124:=eq_true q124;go_wp2_with (first|(refine gA (some 27) Try.func81 #[.int .i64 (rd l1 x20_1), .int .i64 0, .int .i64 a2] ?_;(with_reducible refine (impl_within.calls (rd l1 x20_1) 0 a2 false _ A13.out).mono ?_);rintro e w' ⟨rfl,⟨nd,rfl⟩⟩;refine ⟨_,rfl,?_⟩))
        go_ret
        exact ⟨by first|rfl|(simp [errW_none,errW_some] <;>rfl)|(simp [*,errW_none,errW_some] <;>rfl),uB HB⟩
      ·
       rw [if_neg c12] at H;exact absurd H (by simp)
     ·
      rw [if_neg c11] at H;exact absurd H (by simp)
    ·
     rw [if_neg c10] at H;have c10b0:=decide_eq_false c10;clear c10;obtain rfl:=Option.some.inj H;go_wp2
     go_ret
     exact ⟨by first|rfl|(simp [errW_none,errW_some] <;>rfl)|(simp [*,errW_none,errW_some] <;>rfl),uB HB⟩
 ·
  rw [if_neg c6] at H;have c6b0:((l1.length:Int)==t123)=false:=beq_eq_false_iff_ne.mpr c6;have c6b1:((l1.length:Int) !=t123)=true:=bne_iff_ne.mpr c6;obtain rfl:=Option.some.inj H;go_enter Try.func78,Try.ntmps78;go_wp2_with (first|(refine bE (N:=4) (cs:= #[.slice A0_0 l0_0.length c0_0]) (t:=26) ?_;intro gb122 hg w26 hbox hb;have BK122:=Aside0.mk (hbox);have GW122:=Aside0.mk ((by rw [hg];exact (below_size (uB HB)):w.heap.size≤gb122));have GE122:=GW122;replace HB:=Aside0.mk (below_step (uB HB) hb);clear hb hbox hg;have hcz27_0:=bC BK122;have hfz27_0:=blk_frozen BK122.out 0)|(refine gA (some 16) Try.func65 #[.agg #[.slice A0_0 l0_0.length c0_0]] ?_;(with_reducible refine (impl_Poset_n.calls _ _ l0_0 t123 _ (uD HR0_0 HB) HC0_0.out A5.out).mono ?_);rintro e w28 ⟨rfl,hb⟩;refine ⟨_,rfl,?_⟩;replace BK122:=Aside0.mk (blk_below (uK BK122) hb);replace HB:=Aside0.mk (below_step (uB HB) hb);(try clear hb)))
  go_ret
  exact ⟨by first|rfl|(simp [errW_none,errW_some] <;>rfl)|(simp [*,errW_none,errW_some] <;>rfl),uB HB⟩
def impl_isArray.f (k : Nat) (l0_0 : List Int) (l1 : List Int) (a2 : Int) : Option (Bool) := (impl_isHigh.f k l0_0 a2).bind fun t133 => (if t133 = true then ((impl_Poset_areLabels.f k l0_0 l1 a2 0).bind fun t134 => (some t134)) else (some false))
theorem impl_isArray.mono : ∀ a0 a1 a2 k, LeO (impl_isArray.f k a0 a1 a2) (impl_isArray.f (k + 1) a0 a1 a2) := by
 intro a0 a1 a2 k;unfold impl_isArray.f
 repeat' first
  |(with_reducible exact impl_Poset_areLabels.mono _ _ _ _ _)
  |(with_reducible exact impl_isHigh.mono _ _ _)
  |(with_reducible exact LeO.refl _)
  |(with_reducible exact LeO.none _)
  |(with_reducible refine LeO.ite ?_ ?_)
  |(with_reducible refine LeO.bind ?_ (fun _=> ?_))
  |exact impl_Poset_areLabels.mono _ _ _ _ _
  |exact impl_isHigh.mono _ _ _
  |exact LeO.none _
  |refine LeO.ite ?_ ?_
  |refine LeO.bind ?_ (fun _=> ?_)
set_option maxHeartbeats 8000000 in
set_option maxRecDepth 100000 in
theorem impl_isArray.calls (k : Nat) (A0_0 : Option Addr) (c0_0 : Nat) (l0_0 : List Int) (A1 : Option Addr) (c1 : Nat) (l1 : List Int) (a2 : Int) (r : Bool) (w : World) (hr0_0 : Kd.C (Kd.int .i64) w A0_0 l0_0.length l0_0) (hc0_0 : l0_0.length ≤ c0_0) (hr1 : Kd.C (Kd.int .i64) w A1 l1.length l1) (hc1 : l1.length ≤ c1) (h : impl_isArray.f k l0_0 l1 a2 = some r) :
 Calls Try.prog 62 #[.agg #[.slice A0_0 l0_0.length c0_0], .slice A1 l1.length c1, .int .i64 a2] w fun e w'=>e= .returned (.bool r)∧Below w.heap.size w w':=by
 have hu26:=Try.underlying26;have HR0_0:=Aside0.mk hr0_0;have HC0_0:=Aside0.mk hc0_0;clear hr0_0 hc0_0;have HR1:=Aside0.mk hr1;have HC1:=Aside0.mk hc1;clear hr1 hc1;have HB:=Aside0.mk (Below.refl w.heap.size w);have H:((impl_isHigh.f k l0_0 a2).bind fun t133=>(if t133=true then ((impl_Poset_areLabels.f k l0_0 l1 a2 0).bind fun t134=>(some t134)) else (some false)))=some r:=h;clear h;obtain ⟨t133,A4,H⟩:=bs H;(try dsimp only at H)
 by_cases c5:t133=true
 ·
  subst c5;rw [if_pos rfl] at H;obtain ⟨t134,A6,H⟩:=bs H;(try dsimp only at H)
  obtain rfl:=Option.some.inj H;go_enter Try.func62,Try.ntmps62;go_wp2_with (first|(refine bE (N:=3) (cs:= #[.slice A0_0 l0_0.length c0_0]) (t:=26) ?_;intro gb132 hg w7 hbox hb;have BK132:=Aside0.mk (hbox);have GW132:=Aside0.mk ((by rw [hg];exact (below_size (uB HB)):w.heap.size≤gb132));have GE132:=GW132;replace HB:=Aside0.mk (below_step (uB HB) hb);clear hb hbox hg;have hcz8_0:=bC BK132;have hfz8_0:=blk_frozen BK132.out 0)|(refine gA (some 9) Try.func77 #[.agg #[.slice A0_0 l0_0.length c0_0], .int .i64 a2] ?_;(with_reducible refine (impl_isHigh.calls k _ _ l0_0 a2 true _ (uD HR0_0 HB) HC0_0.out A4.out).mono ?_);rintro e w9 ⟨rfl,hb⟩;refine ⟨_,rfl,?_⟩;replace BK132:=Aside0.mk (blk_below (uK BK132) hb);replace HB:=Aside0.mk (below_step (uB HB) hb);(try clear hb);have hcz10_0:=bC BK132;have hfz10_0:=blk_frozen BK132.out 0)|(go_at_call 78;(with_reducible refine (impl_Poset_areLabels.calls k _ _ l0_0 _ _ l1 a2 0 t134 _ (uD HR0_0 HB) HC0_0.out (uD HR1 HB) HC1.out A6.out).mono ?_);rintro e w11 ⟨rfl,hb⟩;replace BK132:=Aside0.mk (blk_below (uK BK132) hb);replace HB:=Aside0.mk (below_step (uB HB) hb);(try clear hb)))
  go_ret
  exact ⟨by first|rfl|(simp [errW_none,errW_some] <;>rfl)|(simp [*,errW_none,errW_some] <;>rfl),uB HB⟩
 ·
  replace c5:=Bool.eq_false_iff.mpr c5;subst c5;rw [if_neg (show ¬ (false=true) by decide)] at H;obtain rfl:=Option.some.inj H;go_enter Try.func62,Try.ntmps62;go_wp2_with (first|(refine bE (N:=3) (cs:= #[.slice A0_0 l0_0.length c0_0]) (t:=26) ?_;intro gb132 hg w12 hbox hb;have BK132:=Aside0.mk (hbox);have GW132:=Aside0.mk ((by rw [hg];exact (below_size (uB HB)):w.heap.size≤gb132));have GE132:=GW132;replace HB:=Aside0.mk (below_step (uB HB) hb);clear hb hbox hg;have hcz13_0:=bC BK132;have hfz13_0:=blk_frozen BK132.out 0)|(refine gA (some 9) Try.func77 #[.agg #[.slice A0_0 l0_0.length c0_0], .int .i64 a2] ?_;(with_reducible refine (impl_isHigh.calls k _ _ l0_0 a2 false _ (uD HR0_0 HB) HC0_0.out A4.out).mono ?_);rintro e w14 ⟨rfl,hb⟩;refine ⟨_,rfl,?_⟩;replace BK132:=Aside0.mk (blk_below (uK BK132) hb);replace HB:=Aside0.mk (below_step (uB HB) hb);(try clear hb)))
  go_ret
  exact ⟨by first|rfl|(simp [errW_none,errW_some] <;>rfl)|(simp [*,errW_none,errW_some] <;>rfl),uB HB⟩
def impl_numbered.l0 : Nat → List Int → Int → Int → Option (List Int)
 |0,_,_,_=>none
 |k+1,x3,x6,x7=>if x7<x6 then (if x3.length<17592186044416 then (impl_numbered.l0 k (x3++ [x7]) x6 (wrap64 (x7+1))) else (none)) else (some x3)
def impl_numbered.f (k : Nat) (a0 : Int) : Option (List Int) := impl_numbered.l0 k (([] : List Int)) a0 0
theorem impl_numbered.mono_l : ∀ k, (∀ y0 y1 y2, LeO (impl_numbered.l0 k y0 y1 y2) (impl_numbered.l0 (k + 1) y0 y1 y2))
 |0=>fun _ _ _ r h=>by simp [impl_numbered.l0] at h
 |k+1=>by
  have ih0:=impl_numbered.mono_l k
  ·
   intro y0 y1 y2;unfold impl_numbered.l0
   repeat' first
   |(with_reducible exact ih0 _ _ _)
   |(with_reducible exact LeO.refl _)
   |(with_reducible exact LeO.none _)
   |(with_reducible refine LeO.ite ?_ ?_)
   |(with_reducible refine LeO.bind ?_ (fun _=> ?_))
   |exact ih0 _ _ _
   |exact LeO.none _
   |refine LeO.ite ?_ ?_
   |refine LeO.bind ?_ (fun _=> ?_)
theorem impl_numbered.mono : ∀ a0 k, LeO (impl_numbered.f k a0) (impl_numbered.f (k + 1) a0) := by
 intro a0 k;have ih0:=impl_numbered.mono_l k;unfold impl_numbered.f
 repeat' first
  |(with_reducible exact ih0 _ _ _)
  |(with_reducible exact LeO.refl _)
  |(with_reducible exact LeO.none _)
  |(with_reducible refine LeO.ite ?_ ?_)
  |(with_reducible refine LeO.bind ?_ (fun _=> ?_))
  |exact ih0 _ _ _
  |exact LeO.none _
  |refine LeO.ite ?_ ?_
  |refine LeO.bind ?_ (fun _=> ?_)
set_option maxHeartbeats 8000000 in
set_option maxRecDepth 100000 in
theorem impl_numbered.calls (k : Nat) (a0 : Int) (r : List Int) (w : World) (h : impl_numbered.f k a0 = some r) :
 Calls Try.prog 64 #[.int .i64 a0] w fun e w'=> ∃ v0_:Value,e= .returned (v0_)∧Kd.R (Kd.int .i64) 3 w' w.heap.size (fun _=>True) v0_ r∧Below w.heap.size w w':=by
 have HB:=Aside0.mk (Below.refl w.heap.size w);have H:(impl_numbered.l0 k (([] :List Int)) a0 0)=some r:=h;clear h;obtain ⟨y135,hy135⟩: ∃ y_:List Int,y_=(([] :List Int)):=⟨_,rfl⟩
 replace H:(impl_numbered.l0 k y135 a0 0)=some r:=by first|(rw [hy135];with_reducible exact H)|(have H2_:=(Option.bind_some _ _).symm.trans H;rw [hy135];with_reducible exact H2_)|(have H2_:=(Option.bind_some _ _).symm.trans H;with_reducible exact H2_)|with_reducible exact H|(rw [hy135];exact H)|exact H
 have Ny135:=Aside0.mk hy135;clear hy135;have H':=Aside0.mk H;clear H;go_enter Try.func64,Try.ntmps64;go_wp2_with (first|((with_reducible refine gate_dst (N:=5) rfl ?_);refine Kd.R_lit (Kd.int .i64) _ 3 ?hg (N:=5) ?hd (xs:=([] :List Int)) (inner:= []) (ok:=fun _=>True) (okp:=fun _=>True) ?hr ?hp (fun _ hk=>hk) trivial (Below.refl _ _) (Nat.le_refl _) (by simp) ?_;(case hd=>rfl);(case hg=>rfl);(case hr=>first|(go_simp;done)|(go_simp;rfl));(case hp=>exact (Reps.none _ _));intro v136 w2 ho3 hb hg_ hnew_;clear hg_ hnew_;(first|rw [←Ny135.out] at ho3|(simp only [Int.reduceToNat] at ho3;rw [←Ny135.out] at ho3));have HO137:=Aside0.mk (Kd.R_lower ho3 (below_size (uB HB)));replace HB:=Aside0.mk (below_step (uB HB) hb);clear hb ho3))
 go_loopg [3,7] k (fun kq v3 v7 w'=> ∃ (x3_1:List Int) (x7_1:Int),v7= .int .i64 x7_1∧Aside0 (impl_numbered.l0 kq x3_1 a0 x7_1=some r)∧Aside0 (kq≤k)∧Aside0 (Kd.R (Kd.int .i64) 3 w' w.heap.size (fun _=>True) v3 x3_1)∧Aside0 (Below w.heap.size w w'))
 case atStart=>exact ⟨(y135),(0),(by first|rfl|(simp;done)|(simp [*];done)),H',⟨Nat.le_refl _⟩,⟨uR HO137⟩,⟨uB HB⟩⟩
 case round=>
  clear H'
  try clear p2
  obtain ⟨x3_1,x7_1,rfl,HA,HK1,HO_3,HB⟩:=hrel;cases gk with
  |zero=>exact absurd HA.out (by simp [impl_numbered.l0])
  |succ k1=>
   have H:=HA.out;clear HA;simp only [impl_numbered.l0] at H
   by_cases c4:x7_1<a0
   ·
    rw [if_pos c4] at H;have c4b0:=decide_eq_true c4;clear c4
    by_cases c5:x3_1.length<17592186044416
    ·
     rw [if_pos c5] at H;have LMc5:=Aside0.mk c5;clear c5;obtain ⟨y138,hy138⟩: ∃ y_:List Int,y_=(x3_1++ [x7_1]):=⟨_,rfl⟩
     replace H:(impl_numbered.l0 k1 y138 a0 (wrap64 (x7_1+1)))=some r:=by first|(rw [hy138];with_reducible exact H)|(have H2_:=(Option.bind_some _ _).symm.trans H;rw [hy138];with_reducible exact H2_)|(have H2_:=(Option.bind_some _ _).symm.trans H;with_reducible exact H2_)|with_reducible exact H|(rw [hy138];exact H)|exact H
     have Ny138:=Aside0.mk hy138;clear hy138;have H':=Aside0.mk H;clear H;go_wp2_with (first|((with_reducible refine gate_builtin (b:= .append) (xs:= #[.tmp 10, .tmp 12]) rfl ?_);at_builtin;refine Kd.R_append (Kd.int .i64) (w0:=w) w.heap.size rfl (.tmp 10) (.tmp 12) 24 3 (.int .i64 0) 8 rfl Try.underlying24 info3 rfl (by decide) (by omega) u3 x3_1 x7_1 [.int .i64 x7_1] (fun _=>True) (fun _=>False) rfl rfl ?aP (fun _ hk=>hk.elim) ?aF ?aO ?aB ?aS ?aL ?_;(case aP=>exact rfl);(case aB=>exact (uB HB));(case aF=>exact (fun _ _=>trivial));(case aO=>exact (uR HO_3));(case aS=>exact (below_size (uB HB)));(case aL=>have:=LMc5.out;omega);intro v139 w6 ho hb hg hat;rw [←Ny138.out] at ho;replace HB:=Aside0.mk (hb);have HO140:=Aside0.mk (ho);clear HO_3;clear ho hb hg hat));go_roundg k1
     case measure=>have:=HK1.out;omega
     case rel=>exact ⟨(y138),(wrap64 (x7_1+1)),(by first|rfl|(simp;done)|(simp [*];done)),H',⟨by have:=HK1.out;omega⟩,⟨uR HO140⟩,⟨uB HB⟩⟩
    ·
     rw [if_neg c5] at H;exact absurd H (by simp)
   ·
    rw [if_neg c4] at H;have c4b0:=decide_eq_false c4;clear c4;obtain rfl:=Option.some.inj H;go_wp2
    go_ret
    exact ⟨_,by first|rfl|(simp [errW_none,errW_some] <;>rfl)|(simp [*,errW_none,errW_some] <;>rfl),uR HO_3,uB HB⟩
end Go.Proofs.Ytkgngggppcmpfaa.L
end
section
namespace Go.Proofs.Ytkgngggppcmpfaa.L
open Go.RowKit Go.Proofs.YtkgngggppcmpfaaW.PrintWords Go.Proofs.YtkgngggppcmpfaaW.PrintLast Go.Proofs.YtkgngggppcmpfaaW.PrintMore
attribute [local go_sem] max2_int min2_int max_two min_two max_three min_three max_four min_four
set_option linter.unusedVariables false
set_option linter.unusedSimpArgs false
def slices_Clone_int_int.f (l0 : List Int) : Option (List Int) := if l0.length < 17592186044416 then some l0 else none
set_option maxHeartbeats 800000 in
set_option maxRecDepth 100000 in
theorem slices_Clone_int_int.calls (A0 : Option Addr) (c0 : Nat) (l0 : List Int) (r : List Int) (w : World) (hr0 : Kd.C (Kd.int .i64) w A0 l0.length l0) (hc0 : l0.length ≤ c0) (h : slices_Clone_int_int.f l0 = some r) :
 Calls Try.prog 66 #[.slice A0 l0.length c0] w fun e w'=> ∃ v0_:Value,e= .returned (v0_)∧Kd.R (Kd.int .i64) 3 w' w.heap.size (fun _=>True) v0_ r∧Below w.heap.size w w':=by
 unfold slices_Clone_int_int.f at h
 split at h
 ·
  rename_i hl;obtain rfl:=Option.some.inj h;clear h;have HL:=Aside0.mk hl;have HR0:=Aside0.mk hr0;clear hl hr0 hc0;cases A0 with
  |none=>
   have hn:l0= [] :=by
    apply Classical.byContradiction;intro hne;obtain ⟨_,e,_⟩:=HR0.out.2.2 (List.length_pos_iff.mpr hne);cases e
   subst hn;have hs:=Lib.run_eql_slice_nil (P:=Try.prog) w 24 3 none 0 c0 0 0 Try.underlying24;go_enter Try.func66,Try.ntmps66;go_wp2
   go_ret
   exact ⟨_,rfl,Kd.R_nil _ _ _ _ _,Below.refl _ _⟩
  |some a=>
   have hs:=Lib.run_eql_slice_nil (P:=Try.prog) w 24 3 (some a) l0.length c0 0 0 Try.underlying24;go_enter Try.func66,Try.ntmps66;go_wp2_with (first|((with_reducible refine gate_dst (N:=5) rfl ?_);refine Kd.R_lit (Kd.int .i64) _ 3 ?hg (N:=5) ?hd (xs:=([] :List Int)) (inner:= []) (ok:=fun _=>True) (okp:=fun _=>True) ?hr ?hp (fun _ hk=>hk) trivial (Below.refl _ _) (Nat.le_refl _) (by simp) ?_;(case hd=>rfl);(case hg=>rfl);(case hr=>first|(go_simp;done)|(go_simp;rfl));(case hp=>exact (Reps.none _ _));intro v109 w3 ho4 hb hg_ hnew_;clear hg_ hnew_;have HB:=Aside0.mk hb;have HO:=Aside0.mk ho4;clear hb ho4)|((with_reducible refine gate_builtin (b:= .append) (xs:= #[.tmp 5, .tmp 6]) rfl ?_);at_builtin;refine Kd.R_append_rows (Kd.int .i64) (w0:=w) w.heap.size rfl (.tmp 5) (.tmp 6) 24 3 (.int .i64 0) 8 rfl Try.underlying24 info3 rfl (by decide) (by omega) v109 [] l0 _ _ _ (fun _=>True) (fun _=>False) rfl rfl ?aO ?aR (fun _ _ h=>h) (fun _ h=>h.elim) ?aF ?aB ?aS ?aL ?_;(case aR=>exact (Kd.C_below HR0.out HB.out));(case aB=>exact HB.out);(case aF=>exact (fun _ _=>trivial));(case aO=>exact HO.out);(case aS=>exact HB.out.size);(case aL=>have:=HL.out;simp;omega);intro v112 w5 ho hb hg hat;have HB2:=Aside0.mk hb;have HO2:=Aside0.mk ho;clear ho hb hg hat))
   go_ret
   exact ⟨_,rfl,by simpa using HO2.out,HB2.out⟩
 ·
  exact absurd h (by simp)
end Go.Proofs.Ytkgngggppcmpfaa.L
end
section
namespace Go.Proofs.Ytkgngggppcmpfaa.L
open Go.RowKit Go.Proofs.YtkgngggppcmpfaaW.PrintWords Go.Proofs.YtkgngggppcmpfaaW.PrintLast Go.Proofs.YtkgngggppcmpfaaW.PrintMore Go.Proofs.Ytkgngggppcmpfaa.X
attribute [local go_sem] max2_int min2_int max_two min_two max_three min_three max_four min_four
set_option linter.unusedVariables false
set_option linter.unusedSimpArgs false
mutual
def impl_Poset_reach.l0 : Nat → List Int → Int → Int → Int → List Int → Int → Int → List Int → Option (Int × Int)
 |0,_,_,_,_,_,_,_,_=>none
 |k+1,x1,x3,x10,x11,x21,x22,x23,x142000=>if x23<x22 then (if 0≤x23 then (if x23<(x21.length:Int) then (if 0≤(rd x21 x23) then (if (rd x21 x23)<(x1.length:Int) then (impl_Poset_reach.l0 k x1 x3 (mx x10 (rd x1 (rd x21 x23))) x11 x21 x22 (wrap64 (x23+1)) x142000) else (none)) else (none)) else (none)) else (none)) else ((impl_Poset_n.f x142000).bind fun t148=>(impl_Poset_reach.l1 k x1 x3 x10 x11 t148 0 x142000))
def impl_Poset_reach.l1 : Nat → List Int → Int → Int → Int → Int → Int → List Int → Option (Int × Int)
 |0,_,_,_,_,_,_,_=>none
 |k+1,x1,x3,x10,x11,x35,x36,x142000=>if x36<x35 then (if 0≤x36 then (if x36<(x142000.length:Int) then ((impl_has.f (rd x142000 x36) x3).bind fun t150=>(if t150=true then (if x36<(x1.length:Int) then (impl_Poset_reach.l1 k x1 x3 x10 (mn x11 (rd x1 x36)) x35 (wrap64 (x36+1)) x142000) else (none)) else (impl_Poset_reach.l1 k x1 x3 x10 x11 x35 (wrap64 (x36+1)) x142000))) else (none)) else (none)) else (some (x10,x11))
end
def impl_Poset_reach.f (k : Nat) (l0_0 : List Int) (l1 : List Int) (a2 : Int) (a3 : Int) : Option (Int × Int) := if 0 ≤ a3 then (if a3 < (l0_0.length : Int) then ((impl_items.f k (rd l0_0 a3)).bind fun t143 => (impl_Poset_reach.l0 k l1 a3 0 a2 t143 (t143.length : Int) 0 l0_0)) else (none)) else (none)
theorem impl_Poset_reach.mono_l : ∀ k, (∀ y0 y1 y2 y3 y4 y5 y6 y7, LeO (impl_Poset_reach.l0 k y0 y1 y2 y3 y4 y5 y6 y7) (impl_Poset_reach.l0 (k + 1) y0 y1 y2 y3 y4 y5 y6 y7)) ∧ (∀ y0 y1 y2 y3 y4 y5 y6, LeO (impl_Poset_reach.l1 k y0 y1 y2 y3 y4 y5 y6) (impl_Poset_reach.l1 (k + 1) y0 y1 y2 y3 y4 y5 y6))
 |0=>⟨fun _ _ _ _ _ _ _ _ r h=>by simp [impl_Poset_reach.l0] at h,fun _ _ _ _ _ _ _ r h=>by simp [impl_Poset_reach.l1] at h⟩
 |k+1=>by
  obtain ⟨ih0,ih1⟩:=impl_Poset_reach.mono_l k;refine ⟨?_,?_⟩
  ·
   intro y0 y1 y2 y3 y4 y5 y6 y7;unfold impl_Poset_reach.l0
   repeat' first
   |(with_reducible exact ih0 _ _ _ _ _ _ _ _)
   |(with_reducible exact ih1 _ _ _ _ _ _ _)
   |(with_reducible exact impl_items.mono _ _)
   |(with_reducible exact LeO.refl _)
   |(with_reducible exact LeO.none _)
   |(with_reducible refine LeO.ite ?_ ?_)
   |(with_reducible refine LeO.bind ?_ (fun _=> ?_))
   |exact ih0 _ _ _ _ _ _ _ _
   |exact ih1 _ _ _ _ _ _ _
   |exact impl_items.mono _ _
   |exact LeO.none _
   |refine LeO.ite ?_ ?_
   |refine LeO.bind ?_ (fun _=> ?_)
  ·
   intro y0 y1 y2 y3 y4 y5 y6;unfold impl_Poset_reach.l1
   repeat' first
   |(with_reducible exact ih0 _ _ _ _ _ _ _ _)
   |(with_reducible exact ih1 _ _ _ _ _ _ _)
   |(with_reducible exact impl_items.mono _ _)
   |(with_reducible exact LeO.refl _)
   |(with_reducible exact LeO.none _)
   |(with_reducible refine LeO.ite ?_ ?_)
   |(with_reducible refine LeO.bind ?_ (fun _=> ?_))
   |exact ih0 _ _ _ _ _ _ _ _
   |exact ih1 _ _ _ _ _ _ _
   |exact impl_items.mono _ _
   |exact LeO.none _
   |refine LeO.ite ?_ ?_
   |refine LeO.bind ?_ (fun _=> ?_)
theorem impl_Poset_reach.mono : ∀ a0 a1 a2 a3 k, LeO (impl_Poset_reach.f k a0 a1 a2 a3) (impl_Poset_reach.f (k + 1) a0 a1 a2 a3) := by
 intro a0 a1 a2 a3 k;obtain ⟨ih0,ih1⟩:=impl_Poset_reach.mono_l k;unfold impl_Poset_reach.f
 repeat' first
  |(with_reducible exact ih0 _ _ _ _ _ _ _ _)
  |(with_reducible exact ih1 _ _ _ _ _ _ _)
  |(with_reducible exact impl_items.mono _ _)
  |(with_reducible exact LeO.refl _)
  |(with_reducible exact LeO.none _)
  |(with_reducible refine LeO.ite ?_ ?_)
  |(with_reducible refine LeO.bind ?_ (fun _=> ?_))
  |exact ih0 _ _ _ _ _ _ _ _
  |exact ih1 _ _ _ _ _ _ _
  |exact impl_items.mono _ _
  |exact LeO.none _
  |refine LeO.ite ?_ ?_
  |refine LeO.bind ?_ (fun _=> ?_)
set_option maxHeartbeats 8000000 in
set_option maxRecDepth 100000 in
theorem impl_Poset_reach.calls (k : Nat) (A0_0 : Option Addr) (c0_0 : Nat) (l0_0 : List Int) (A1 : Option Addr) (c1 : Nat) (l1 : List Int) (a2 : Int) (a3 : Int) (r1 : Int) (r2 : Int) (w : World) (hr0_0 : Kd.C (Kd.int .i64) w A0_0 l0_0.length l0_0) (hc0_0 : l0_0.length ≤ c0_0) (hr1 : Kd.C (Kd.int .i64) w A1 l1.length l1) (hc1 : l1.length ≤ c1) (h : impl_Poset_reach.f k l0_0 l1 a2 a3 = some (r1, r2)) :
 Calls Try.prog 82 #[.agg #[.slice A0_0 l0_0.length c0_0], .slice A1 l1.length c1, .int .i64 a2, .int .i64 a3] w fun e w'=>e= .returned (.tuple #[.int .i64 r1, .int .i64 r2])∧Below w.heap.size w w':=by
 have hu26:=Try.underlying26;have HR0_0:=Aside0.mk hr0_0;have HC0_0:=Aside0.mk hc0_0;clear hr0_0 hc0_0;have HR1:=Aside0.mk hr1;have HC1:=Aside0.mk hc1;clear hr1 hc1;have HB:=Aside0.mk (Below.refl w.heap.size w);have H:(if 0≤a3 then (if a3<(l0_0.length:Int) then ((impl_items.f k (rd l0_0 a3)).bind fun t143=>(impl_Poset_reach.l0 k l1 a3 0 a2 t143 (t143.length:Int) 0 l0_0)) else (none)) else (none))=some (r1,r2):=h;clear h
 by_cases c5:0≤a3
 ·
  rw [if_pos c5] at H;have c5b0:=decide_eq_true c5;clear c5
  by_cases c6:a3<(l0_0.length:Int)
  ·
   rw [if_pos c6] at H;have c6b0:=decide_eq_true c6;clear c6;obtain ⟨t143,A7,H⟩:=bs H;(try dsimp only at H)
   have H':=Aside0.mk H;clear H;go_enter Try.func82,Try.ntmps82;go_wp2_with (first|(refine bE (N:=4) (cs:= #[.slice A0_0 l0_0.length c0_0]) (t:=26) ?_;intro gb141 hg w8 hbox hb;have BK141:=Aside0.mk (hbox);have GW141:=Aside0.mk ((by rw [hg];exact (below_size (uB HB)):w.heap.size≤gb141));have GE141:=GW141;replace HB:=Aside0.mk (below_step (uB HB) hb);clear hb hbox hg;have hcz9_0:=bC BK141;have hfz9_0:=blk_frozen BK141.out 0;have p142:0≤(a3:Int):=of_decide_eq_true (by first|(with_reducible assumption)|assumption);have q142:a3<(l0_0.length:Int):=of_decide_eq_true (by first|(with_reducible assumption)|assumption);obtain ⟨ad142,e142,hx142_0⟩:=Kd.at_int HR0_0.out a3 p142 q142;cases e142;replace hx142_0:=(HB.out.cell (World.block_lt_of_cell? w _ hx142_0)).trans hx142_0;replace p142:=eq_true p142;replace q142:=eq_true q142)|(refine gA (some 21) Try.func116 #[.int .i64 (rd l0_0 a3)] ?_;(with_reducible refine (impl_items.calls k (rd l0_0 a3) t143 _ A7.out).mono ?_);rintro e w10 ⟨v144,rfl,ho0,hb⟩;refine ⟨_,rfl,?_⟩;have HO145:=Aside0.mk (Kd.R_lower ho0 (below_size (uB HB)));replace BK141:=Aside0.mk (blk_below (uK BK141) hb);replace HB:=Aside0.mk (below_step (uB HB) hb);(try clear hb ho0);obtain ⟨Ao11,co11,eo11⟩:=Kd.R_slice HO145.out;subst eo11))
   go_loopg [10,23] k (fun kq v10 v23 w'=> ∃ (x10_1:Int) (x23_1:Int),v10= .int .i64 x10_1∧v23= .int .i64 x23_1∧Aside0 (impl_Poset_reach.l0 kq l1 a3 x10_1 a2 t143 (t143.length:Int) x23_1 l0_0=some (r1,r2))∧Aside0 (kq≤k)∧Aside0 (Kd.R (Kd.int .i64) 3 w' w.heap.size (fun _=>True) (.slice Ao11 t143.length co11) t143)∧Aside0 (w'.heap[gb141]? =some (.cells #[(.slice (some ad142) l0_0.length c0_0)] 26 (0,0)))∧Aside0 (Below w.heap.size w w'))
   case atStart=>exact ⟨(0),(0),(by first|rfl|(simp;done)|(simp [*];done)),(by first|rfl|(simp;done)|(simp [*];done)),H',⟨Nat.le_refl _⟩,⟨uR HO145⟩,⟨uK BK141⟩,⟨uB HB⟩⟩
   case round=>
    clear H'
    try clear c1
    try clear p1
    try clear q1
    try clear hx1
    try clear p2
    try clear c5
    try clear c5b0
    try clear c6
    try clear c6b0
    try clear c8
    try clear c11
    try clear hcz9_0
    try clear hfz9_0
    try clear hx142_0
    try clear p142
    try clear q142
    obtain ⟨x10_1,x23_1,rfl,rfl,HA,HK1,HO_21,BK141,HB⟩:=hrel;cases gk with
    |zero=>exact absurd HA.out (by simp [impl_Poset_reach.l0])
    |succ k1=>
     have H:=HA.out;clear HA;simp only [impl_Poset_reach.l0] at H
     by_cases c12:x23_1<(t143.length:Int)
     ·
      rw [if_pos c12] at H;have c12b0:=decide_eq_true c12;clear c12
      by_cases c13:0≤x23_1
      ·
       rw [if_pos c13] at H;have c13b0:=decide_eq_true c13;clear c13
       by_cases c14:x23_1<(t143.length:Int)
       ·
        rw [if_pos c14] at H;have c14b0:=decide_eq_true c14;clear c14
        by_cases c15:0≤(rd t143 x23_1)
        ·
         rw [if_pos c15] at H;have c15b0:=decide_eq_true c15;clear c15
         by_cases c16:(rd t143 x23_1)<(l1.length:Int)
         ·
          rw [if_pos c16] at H;have c16b0:=decide_eq_true c16;clear c16;obtain ⟨ji17,hji17⟩: ∃ j_:Int,(mx x10_1 (rd l1 (rd t143 x23_1)))=j_:=⟨_,rfl⟩
          replace H:(impl_Poset_reach.l0 k1 l1 a3 ji17 a2 t143 (t143.length:Int) (wrap64 (x23_1+1)) l0_0)=some (r1,r2):=by first|(rw [hji17] at H;exact H)|(simp only [hji17] at H ⊢;exact H)
          have hji17_:(if x10_1<(rd l1 (rd t143 x23_1)) then (rd l1 (rd t143 x23_1)) else x10_1)=ji17:=hji17;have H':=Aside0.mk H;clear H;have p146:0≤(x23_1:Int):=of_decide_eq_true (by first|(with_reducible assumption)|assumption);have q146:x23_1<(t143.length:Int):=of_decide_eq_true (by first|(with_reducible assumption)|assumption);obtain ⟨ad146,e146,hx146_0⟩:=Kd.at_int (Kd.R_reads' HO_21.out).2.2 x23_1 p146 q146;cases e146;replace p146:=eq_true p146;replace q146:=eq_true q146;have p147:0≤((rd t143 x23_1):Int):=of_decide_eq_true (by first|(with_reducible assumption)|assumption);have q147:(rd t143 x23_1)<(l1.length:Int):=of_decide_eq_true (by first|(with_reducible assumption)|assumption);obtain ⟨ad147,e147,hx147_0⟩:=Kd.at_int HR1.out (rd t143 x23_1) p147 q147;cases e147;replace hx147_0:=(HB.out.cell (World.block_lt_of_cell? w _ hx147_0)).trans hx147_0;replace p147:=eq_true p147;replace q147:=eq_true q147;go_wp2;go_roundg k1
          case measure=>have:=HK1.out;omega
          case rel=>exact ⟨(ji17),(wrap64 (x23_1+1)),(by first|rfl|(simp;done)|(simp only [←hji17] <;>(first|rfl|simp))|(simp [*];done)),(by first|rfl|(simp;done)|(simp [*];done)),H',⟨by have:=HK1.out;omega⟩,⟨uR HO_21⟩,⟨uK BK141⟩,⟨uB HB⟩⟩
         ·
          rw [if_neg c16] at H;exact absurd H (by simp)
        ·
         rw [if_neg c15] at H;exact absurd H (by simp)
       ·
        rw [if_neg c14] at H;exact absurd H (by simp)
      ·
       rw [if_neg c13] at H;exact absurd H (by simp)
     ·
      rw [if_neg c12] at H;have c12b0:=decide_eq_false c12;clear c12;obtain ⟨t148,A18,H⟩:=bs H;(try dsimp only at H)
      have H':=Aside0.mk H;clear H;have hcz19_0:=bC BK141;have hfz19_0:=blk_frozen BK141.out 0;go_wp2_with (first|(refine gA (some 35) Try.func65 #[.agg #[.slice (some ad142) l0_0.length c0_0]] ?_;(with_reducible refine (impl_Poset_n.calls _ _ l0_0 t148 _ (uD HR0_0 HB) HC0_0.out A18.out).mono ?_);rintro e w20 ⟨rfl,hb⟩;refine ⟨_,rfl,?_⟩;replace HO_21:=Aside0.mk (Kd.R_below (uR HO_21) hb);replace BK141:=Aside0.mk (blk_below (uK BK141) hb);replace HB:=Aside0.mk (below_step (uB HB) hb);(try clear hb)))
      go_loopg [11,36] k1 (fun kq v11 v36 w'=> ∃ (x11_2:Int) (x36_2:Int),v11= .int .i64 x11_2∧v36= .int .i64 x36_2∧Aside0 (impl_Poset_reach.l1 kq l1 a3 x10_1 x11_2 t148 x36_2 l0_0=some (r1,r2))∧Aside0 (kq≤k1)∧Aside0 (w'.heap[gb141]? =some (.cells #[(.slice (some ad142) l0_0.length c0_0)] 26 (0,0)))∧Aside0 (Below w.heap.size w w'))
      case atStart=>exact ⟨(a2),(0),(by first|rfl|(simp;done)|(simp [*];done)),(by first|rfl|(simp;done)|(simp [*];done)),H',⟨Nat.le_refl _⟩,⟨uK BK141⟩,⟨uB HB⟩⟩
      case round=>
       clear H'
       try clear c1
       try clear p1
       try clear q1
       try clear hx1
       try clear p2
       try clear c5
       try clear c5b0
       try clear c6
       try clear c6b0
       try clear p6
       try clear c8
       try clear c11
       try clear c12
       try clear c12b0
       try clear c13
       try clear c13b0
       try clear c14
       try clear c14b0
       try clear p14
       try clear q14
       try clear hx14
       try clear c15
       try clear c15b0
       try clear c16
       try clear c16b0
       try clear hcz19_0
       try clear hcz9_0
       try clear hfz19_0
       try clear hfz9_0
       try clear hx142_0
       try clear hx146_0
       try clear hx147_0
       try clear p1
       try clear p142
       try clear p146
       try clear p147
       try clear p2
       try clear q1
       try clear q142
       try clear q146
       try clear q147
       obtain ⟨x11_2,x36_2,rfl,rfl,HA,HK2,BK141,HB⟩:=hrel;cases gk with
       |zero=>exact absurd HA.out (by simp [impl_Poset_reach.l1])
       |succ k2=>
        have H:=HA.out;clear HA;simp only [impl_Poset_reach.l1] at H
        by_cases c21:x36_2<t148
        ·
         rw [if_pos c21] at H;have c21b0:=decide_eq_true c21;clear c21
         by_cases c22:0≤x36_2
         ·
          rw [if_pos c22] at H;have c22b0:=decide_eq_true c22;clear c22
          by_cases c23:x36_2<(l0_0.length:Int)
          ·
           rw [if_pos c23] at H;have c23b0:=decide_eq_true c23;clear c23;obtain ⟨t150,A24,H⟩:=bs H;(try dsimp only at H)
           by_cases c25:t150=true
           ·
            subst c25;rw [if_pos rfl] at H
            by_cases c26:x36_2<(l1.length:Int)
            ·
             rw [if_pos c26] at H;have c26b0:=decide_eq_true c26;clear c26;obtain ⟨ji27,hji27⟩: ∃ j_:Int,(mn x11_2 (rd l1 x36_2))=j_:=⟨_,rfl⟩
             replace H:(impl_Poset_reach.l1 k2 l1 a3 x10_1 ji27 t148 (wrap64 (x36_2+1)) l0_0)=some (r1,r2):=by first|(rw [hji27] at H;exact H)|(simp only [hji27] at H ⊢;exact H)
             (try rw [hji27] at A24)
             have hji27_:(if (rd l1 x36_2)<x11_2 then (rd l1 x36_2) else x11_2)=ji27:=hji27;have H':=Aside0.mk H;clear H;have hcz28_0:=bC BK141;have hfz28_0:=blk_frozen BK141.out 0;have p149:0≤(x36_2:Int):=of_decide_eq_true (by first|(with_reducible assumption)|assumption);have q149:x36_2<(l0_0.length:Int):=of_decide_eq_true (by first|(with_reducible assumption)|assumption);obtain ⟨ad149,e149,hx149_0⟩:=Kd.at_int HR0_0.out x36_2 p149 q149;obtain rfl:ad142=ad149:=(by injection e149)
             replace hx149_0:=(HB.out.cell (World.block_lt_of_cell? w _ hx149_0)).trans hx149_0;replace p149:=eq_true p149;replace q149:=eq_true q149;go_wp2_with (first|(refine gA (some 45) Try.func104 #[.int .i64 (rd l0_0 x36_2), .int .i64 a3] ?_;(with_reducible refine (impl_has.calls (rd l0_0 x36_2) a3 true _ A24.out).mono ?_);rintro e w' ⟨rfl,⟨nd,rfl⟩⟩;refine ⟨_,rfl,?_⟩;have p151:0≤(x36_2:Int):=of_decide_eq_true (by first|(with_reducible assumption)|assumption);have q151:x36_2<(l1.length:Int):=of_decide_eq_true (by first|(with_reducible assumption)|assumption);obtain ⟨ad151,e151,hx151_0⟩:=Kd.at_int HR1.out x36_2 p151 q151;cases e151;replace hx151_0:=(HB.out.cell (World.block_lt_of_cell? w _ hx151_0)).trans hx151_0;replace p151:=eq_true p151;replace q151:=eq_true q151));go_roundg k2
             case measure=>have:=HK1.out;have:=HK2.out;omega
             case rel=>exact ⟨(ji27),(wrap64 (x36_2+1)),(by first|rfl|(simp;done)|(simp only [←hji27] <;>(first|rfl|simp))|(simp [*];done)),(by first|rfl|(simp;done)|(simp [*];done)),H',⟨by have:=HK1.out;have:=HK2.out;omega⟩,⟨uK BK141⟩,⟨uB HB⟩⟩
            ·
             rw [if_neg c26] at H;exact absurd H (by simp)
           ·
            replace c25:=Bool.eq_false_iff.mpr c25;subst c25;rw [if_neg (show ¬ (false=true) by decide)] at H;have H':=Aside0.mk H;clear H;have hcz29_0:=bC BK141;have hfz29_0:=blk_frozen BK141.out 0;have p149:0≤(x36_2:Int):=of_decide_eq_true (by first|(with_reducible assumption)|assumption);have q149:x36_2<(l0_0.length:Int):=of_decide_eq_true (by first|(with_reducible assumption)|assumption);obtain ⟨ad149,e149,hx149_0⟩:=Kd.at_int HR0_0.out x36_2 p149 q149;obtain rfl:ad142=ad149:=(by injection e149)
            replace hx149_0:=(HB.out.cell (World.block_lt_of_cell? w _ hx149_0)).trans hx149_0;replace p149:=eq_true p149;replace q149:=eq_true q149;go_wp2_with (first|(refine gA (some 45) Try.func104 #[.int .i64 (rd l0_0 x36_2), .int .i64 a3] ?_;(with_reducible refine (impl_has.calls (rd l0_0 x36_2) a3 false _ A24.out).mono ?_);rintro e w' ⟨rfl,⟨nd,rfl⟩⟩;refine ⟨_,rfl,?_⟩));go_roundg k2
            case measure=>have:=HK1.out;have:=HK2.out;omega
            case rel=>exact ⟨(x11_2),(wrap64 (x36_2+1)),(by first|rfl|(simp;done)|(simp [*];done)),(by first|rfl|(simp;done)|(simp [*];done)),H',⟨by have:=HK1.out;have:=HK2.out;omega⟩,⟨uK BK141⟩,⟨uB HB⟩⟩
          ·
           rw [if_neg c23] at H;exact absurd H (by simp)
         ·
          rw [if_neg c22] at H;exact absurd H (by simp)
        ·
         rw [if_neg c21] at H;have c21b0:=decide_eq_false c21;clear c21;simp only [Option.some.injEq,Prod.mk.injEq] at H;obtain ⟨rfl,rfl⟩:=H;go_wp2
         go_ret2
         exact ⟨by first|rfl|(simp [errW_none,errW_some] <;>rfl)|(simp [*,errW_none,errW_some] <;>rfl),uB HB⟩
  ·
   rw [if_neg c6] at H;exact absurd H (by simp)
 ·
  rw [if_neg c5] at H;exact absurd H (by simp)
def impl_Poset_turn.l0 : Nat → List Int → Int → List Int → Int → Int → List Int → Option (List Int)
 |0,_,_,_,_,_,_=>none
 |k+1,x1,x2,x12,x13,x14,x153000=>if x14<x13 then (if 0≤x14 then (if x14<(x12.length:Int) then ((impl_Poset_reach.f k x153000 x1 x2 (rd x12 x14)).bind fun bt154=>(if 0≤(rd x12 x14) then (if (rd x12 x14)<(x1.length:Int) then (impl_Poset_turn.l0 k (x1.set ((rd x12 x14):Int).toNat (wrap64 ((wrap64 (bt154.1+bt154.2)) - (rd x1 (rd x12 x14))))) x2 x12 x13 (wrap64 (x14+1)) x153000) else (none)) else (none))) else (none)) else (none)) else (some x1)
def impl_Poset_turn.f (k : Nat) (l0_0 : List Int) (l1 : List Int) (a2 : Int) (l3 : List Int) : Option (List Int) := impl_Poset_turn.l0 k l1 a2 l3 (l3.length : Int) 0 l0_0
theorem impl_Poset_turn.mono_l : ∀ k, (∀ y0 y1 y2 y3 y4 y5, LeO (impl_Poset_turn.l0 k y0 y1 y2 y3 y4 y5) (impl_Poset_turn.l0 (k + 1) y0 y1 y2 y3 y4 y5))
 |0=>fun _ _ _ _ _ _ r h=>by simp [impl_Poset_turn.l0] at h
 |k+1=>by
  have ih0:=impl_Poset_turn.mono_l k
  ·
   intro y0 y1 y2 y3 y4 y5;unfold impl_Poset_turn.l0
   repeat' first
   |(with_reducible exact ih0 _ _ _ _ _ _)
   |(with_reducible exact impl_Poset_reach.mono _ _ _ _ _)
   |(with_reducible exact LeO.refl _)
   |(with_reducible exact LeO.none _)
   |(with_reducible refine LeO.ite ?_ ?_)
   |(with_reducible refine LeO.bind ?_ (fun _=> ?_))
   |exact ih0 _ _ _ _ _ _
   |exact impl_Poset_reach.mono _ _ _ _ _
   |exact LeO.none _
   |refine LeO.ite ?_ ?_
   |refine LeO.bind ?_ (fun _=> ?_)
theorem impl_Poset_turn.mono : ∀ a0 a1 a2 a3 k, LeO (impl_Poset_turn.f k a0 a1 a2 a3) (impl_Poset_turn.f (k + 1) a0 a1 a2 a3) := by
 intro a0 a1 a2 a3 k;have ih0:=impl_Poset_turn.mono_l k;unfold impl_Poset_turn.f
 repeat' first
  |(with_reducible exact ih0 _ _ _ _ _ _)
  |(with_reducible exact impl_Poset_reach.mono _ _ _ _ _)
  |(with_reducible exact LeO.refl _)
  |(with_reducible exact LeO.none _)
  |(with_reducible refine LeO.ite ?_ ?_)
  |(with_reducible refine LeO.bind ?_ (fun _=> ?_))
  |exact ih0 _ _ _ _ _ _
  |exact impl_Poset_reach.mono _ _ _ _ _
  |exact LeO.none _
  |refine LeO.ite ?_ ?_
  |refine LeO.bind ?_ (fun _=> ?_)
set_option maxHeartbeats 8000000 in
set_option maxRecDepth 100000 in
theorem impl_Poset_turn.calls (k : Nat) (A0_0 : Option Addr) (c0_0 : Nat) (l0_0 : List Int) (P1_ : Nat → Prop) (u9000_ : Value) (l1 : List Int) (a2 : Int) (A3 : Option Addr) (c3 : Nat) (l3 : List Int) (r : List Int) (w0 w : World) (hB : Below w0.heap.size w0 w) (hr0_0 : ∀ W_, Kept w W_ (fun k_ => P1_ k_) → Kd.C (Kd.int .i64) W_ A0_0 l0_0.length l0_0) (hc0_0 : l0_0.length ≤ c0_0) (ho1 : Kd.R (Kd.int .i64) 3 w w0.heap.size P1_ u9000_ l1) (hr3 : ∀ W_, Kept w W_ (fun k_ => P1_ k_) → Kd.C (Kd.int .i64) W_ A3 l3.length l3) (hc3 : l3.length ≤ c3) (h : impl_Poset_turn.f k l0_0 l1 a2 l3 = some r) :
 Calls Try.prog 68 #[.agg #[.slice A0_0 l0_0.length c0_0],u9000_, .int .i64 a2, .slice A3 l3.length c3] w fun e w'=>e= .returned (.tuple #[])∧Kd.R (Kd.int .i64) 3 w' w0.heap.size (fun k_=>(P1_ k_∨w.heap.size≤k_)) u9000_ r∧Below w0.heap.size w0 w'∧Kept w w' (fun k_=>P1_ k_):=by
 have hu26:=Try.underlying26;have HR0_0:=Aside0.mk hr0_0;have HC0_0:=Aside0.mk hc0_0;clear hr0_0 hc0_0;have HO1:=Aside0.mk (show Kd.R (Kd.int .i64) 3 w w0.heap.size (fun k_=>(P1_ k_∨w.heap.size≤k_)) u9000_ l1 from Kd.R_mono ho1 (fun k_ hk=>(.inl hk)));have HR3:=Aside0.mk hr3;have HC3:=Aside0.mk hc3;clear hr3 hc3;have HK:=Aside0.mk (Kept.refl w (fun k_=>P1_ k_));have HW0:=Aside0.mk hB.size;have HB:=Aside0.mk hB;clear hB;have H:(impl_Poset_turn.l0 k l1 a2 l3 (l3.length:Int) 0 l0_0)=some r:=h;clear h;have H':=Aside0.mk H;clear H;go_enter Try.func68,Try.ntmps68;go_wp2_with (first|(refine bE (N:=4) (cs:= #[.slice A0_0 l0_0.length c0_0]) (t:=26) ?_;intro gb152 hg w5 hbox hb;replace HO1:=Aside0.mk (Kd.R_below (uR HO1) hb);have BK152:=Aside0.mk (hbox);have GW152:=Aside0.mk ((by rw [hg];exact (by first|exact HK.out.1|exact (show Kept w _ (fun k_=>P1_ k_) from by repeat (first|(with_reducible first|exact HK.out|apply Kept.alloc|apply Kept.drewN|apply Kept.drew)|exact HK.out)).1):w.heap.size≤gb152));replace HK:=Aside0.mk (Kept.below (S:=(fun k_=>P1_ k_)) (by repeat (first|(with_reducible first|exact HK.out|apply Kept.alloc|apply Kept.drewN|apply Kept.drew)|exact HK.out)) hb);have GE152:=Aside0.mk ((by rw [hg];exact (below_size (uB HB)):w0.heap.size≤gb152));replace HB:=Aside0.mk (below_step (uB HB) hb);clear hb hbox hg))
 go_loopg [14] k (fun kq v14 w'=> ∃ (x1_1:List Int) (x14_1:Int),v14= .int .i64 x14_1∧Aside0 (impl_Poset_turn.l0 kq x1_1 a2 l3 (l3.length:Int) x14_1 l0_0=some r)∧Aside0 (kq≤k)∧Aside0 (Kd.R (Kd.int .i64) 3 w' w0.heap.size (fun k_=>(P1_ k_∨w.heap.size≤k_)) u9000_ x1_1)∧Aside0 (w'.heap[gb152]? =some (.cells #[(.slice A0_0 l0_0.length c0_0)] 26 (0,0)))∧Aside0 (Kept w w' (fun k_=>P1_ k_))∧Aside0 (Below w0.heap.size w0 w'))
 case atStart=>exact ⟨(l1),(0),(by first|rfl|(simp;done)|(simp [*];done)),H',⟨Nat.le_refl _⟩,⟨uR HO1⟩,⟨uK BK152⟩,⟨by repeat (first|(with_reducible first|exact HK.out|apply Kept.alloc|apply Kept.drewN|apply Kept.drew|refine Kept.setCell ?_ (.inr GW152.out) _)|exact HK.out)⟩,⟨uB HB⟩⟩
 case round=>
  clear H'
  try clear p2
  try clear c3
  obtain ⟨x1_1,x14_1,rfl,HA,HK1,HO_1,BK152,HK,HB⟩:=hrel;cases gk with
  |zero=>exact absurd HA.out (by simp [impl_Poset_turn.l0])
  |succ k1=>
   have H:=HA.out;clear HA;simp only [impl_Poset_turn.l0] at H
   by_cases c6:x14_1<(l3.length:Int)
   ·
    rw [if_pos c6] at H;have c6b0:=decide_eq_true c6;clear c6
    by_cases c7:0≤x14_1
    ·
     rw [if_pos c7] at H;have c7b0:=decide_eq_true c7;clear c7
     by_cases c8:x14_1<(l3.length:Int)
     ·
      rw [if_pos c8] at H;have c8b0:=decide_eq_true c8;clear c8;obtain ⟨⟨t154,t155⟩,A9,H⟩:=bs H;(try dsimp only at H)
      by_cases c10:0≤(rd l3 x14_1)
      ·
       rw [if_pos c10] at H;have c10b0:=decide_eq_true c10;clear c10
       by_cases c11:(rd l3 x14_1)<(x1_1.length:Int)
       ·
        rw [if_pos c11] at H;have c11b0:=decide_eq_true c11;clear c11;obtain ⟨y157,hy157⟩: ∃ y_:List Int,y_=(x1_1.set ((rd l3 x14_1):Int).toNat (wrap64 ((wrap64 (t154+t155)) - (rd x1_1 (rd l3 x14_1))))):=⟨_,rfl⟩
        replace H:(impl_Poset_turn.l0 k1 y157 a2 l3 (l3.length:Int) (wrap64 (x14_1+1)) l0_0)=some r:=by first|(rw [hy157];with_reducible exact H)|(have H2_:=(Option.bind_some _ _).symm.trans H;rw [hy157];with_reducible exact H2_)|(have H2_:=(Option.bind_some _ _).symm.trans H;with_reducible exact H2_)|with_reducible exact H|(rw [hy157];exact H)|exact H
        have Ny157:=Aside0.mk hy157;clear hy157;have H':=Aside0.mk H;clear H;have p153:0≤(x14_1:Int):=of_decide_eq_true (by first|(with_reducible assumption)|assumption);have q153:x14_1<(l3.length:Int):=of_decide_eq_true (by first|(with_reducible assumption)|assumption);obtain ⟨ad153,e153,hx153_0⟩:=Kd.at_int (Kd.C_kept_now HR3.out HK.out) x14_1 p153 q153;cases e153;replace p153:=eq_true p153;replace q153:=eq_true q153;have hcz13_0:=bC BK152;have hfz13_0:=blk_frozen BK152.out 0;obtain ⟨Ao14,co14,eo14⟩:=Kd.R_slice HO_1.out;subst eo14;go_wp2_with (first|(refine gA (some 23) Try.func82 #[.agg #[.slice A0_0 l0_0.length c0_0], .slice Ao14 x1_1.length co14, .int .i64 a2, .int .i64 (rd l3 x14_1)] ?_;(with_reducible refine (impl_Poset_reach.calls k1 _ _ l0_0 _ _ x1_1 a2 (rd l3 x14_1) t154 t155 _ ?side1 HC0_0.out (uE HO_1) ?side4 A9.out).mono ?_);(case side1=>exact Kd.C_kept_now HR0_0.out (by repeat (first|(with_reducible first|exact HK.out|apply Kept.alloc|apply Kept.drewN|apply Kept.drew|refine Kept.setCell ?_ (.inr GW152.out) _)|exact HK.out)));(case side4=>exact (Kd.R_reads' HO_1.out).2.1);rintro e w15 ⟨rfl,hb⟩;refine ⟨_,rfl,?_⟩;replace HO_1:=Aside0.mk (Kd.R_below (uR HO_1) hb);replace BK152:=Aside0.mk (blk_below (uK BK152) hb);replace HK:=Aside0.mk (Kept.below (S:=(fun k_=>P1_ k_)) (by repeat (first|(with_reducible first|exact HK.out|apply Kept.alloc|apply Kept.drewN|apply Kept.drew|refine Kept.setCell ?_ (.inr GW152.out) _)|exact HK.out)) hb);replace HB:=Aside0.mk (below_step (uB HB) hb);(try clear hb);have p156:0≤((rd l3 x14_1):Int):=of_decide_eq_true (by first|(with_reducible assumption)|assumption);have q156:(rd l3 x14_1)<(x1_1.length:Int):=of_decide_eq_true (by first|(with_reducible assumption)|assumption);obtain ⟨ad156,e156,hx156_0⟩:=Kd.at_int (Kd.R_reads' HO_1.out).2.2 (rd l3 x14_1) p156 q156;cases e156;replace p156:=eq_true p156;replace q156:=eq_true q156;have p12:0≤((rd l3 x14_1):Int):=of_decide_eq_true (by first|(with_reducible assumption)|assumption);have q12:((rd l3 x14_1):Int)<((x1_1.length:Int):Int):=of_decide_eq_true (by first|(with_reducible assumption)|assumption);obtain ⟨go12,co12,eo12,gb12,gl12,cl12,HG12⟩:=Kd.R_form HO_1.out (by omega);(first|cases eo12|(injection eo12 with ea_ en_ ec_;(first|subst ea_|(injection ea_ with ea_;subst ea_));subst ec_;clear en_));have GB12:=Aside0.mk gb12;have GG12:=Aside0.mk HG12;clear gb12 gl12 HG12;have HMgo12:=Aside0.mk (show (P1_ go12∨w.heap.size≤go12) from (HO_1.out.1 _ rfl));(first|simp only [add_plain] at hx156_0|skip);obtain ⟨hx12_0,hf12_0⟩:=Kd.R_celln 0 HO_1.out ((rd l3 x14_1):Int) p12 q12;replace p12:=eq_true p12;replace q12:=eq_true q12;obtain ⟨hy16_,hz16_⟩:=Kd.R_celln 0 HO_1.out ((rd l3 x14_1):Int) (of_decide_eq_true (by first|(with_reducible assumption)|assumption)) (of_decide_eq_true (by first|(with_reducible assumption)|assumption));have HP16:=Kd.R_putg HO_1.out ((rd l3 x14_1):Int) (wrap64 ((wrap64 (t154+t155)) - (rd x1_1 (rd l3 x14_1)))))|((with_reducible refine gate_store (t:=3) (p:=36) rfl ?_);refine store_event (t:=3) (p:=36) (v:= ?vo_w17) (w1:=(w15.setCell ⟨go12,((rd l3 x14_1):Int).toNat,none⟩ (.int .i64 (wrap64 ((wrap64 (t154+t155)) - (rd x1_1 (rd l3 x14_1))))))) ?hg ?ho ?hn ?hr ?_;(case ho=>rfl);(case hg=>rfl);(case hn=>rfl);(case hr=>first|(go_simp;done)|(go_simp;rfl));intro w17 hw;have hg:w15.grownBy w17 (some go12):=(by rw [hw];exact HP16.2);have hp_:Kd.R (Kd.int .i64) 3 w17 w0.heap.size (fun k_=>(P1_ k_∨w.heap.size≤k_)) (.slice (some ⟨go12,0,none⟩) x1_1.length co14) y157:=(by rw [hw,Ny157.out];exact HP16.1);clear HP16;replace BK152:=Aside0.mk (blk_grown (uK BK152) hg (Kd.R_ne HO_1.out BK152.out (by decide)));replace HB:=Aside0.mk ((by rw [hw];exact below_set (HB.out) GB12.out:Below w0.heap.size w0 w17));replace HK:=Aside0.mk (Kept.of_grown (S:=(fun k_=>P1_ k_)) hg (by repeat (first|(with_reducible first|exact HK.out|apply Kept.alloc|apply Kept.drewN|apply Kept.drew|refine Kept.setCell ?_ (.inr GW152.out) _)|exact HK.out)) (fun k_ e_=>(HO_1.out.1 k_ e_)));replace HO_1:=Aside0.mk (hp_);clear hg hw hp_));go_roundg k1
        case measure=>have:=HK1.out;omega
        case rel=>exact ⟨(y157),(wrap64 (x14_1+1)),(by first|rfl|(simp;done)|(simp [*];done)),H',⟨by have:=HK1.out;omega⟩,⟨uR HO_1⟩,⟨uK BK152⟩,⟨by repeat (first|(with_reducible first|exact HK.out|apply Kept.alloc|apply Kept.drewN|apply Kept.drew|refine Kept.setCell ?_ (.inr GW152.out) _)|exact HK.out)⟩,⟨uB HB⟩⟩
       ·
        rw [if_neg c11] at H;exact absurd H (by simp)
      ·
       rw [if_neg c10] at H;exact absurd H (by simp)
     ·
      rw [if_neg c8] at H;exact absurd H (by simp)
    ·
     rw [if_neg c7] at H;exact absurd H (by simp)
   ·
    rw [if_neg c6] at H;have c6b0:=decide_eq_false c6;clear c6;obtain rfl:=Option.some.inj H;go_wp2
    first|go_end0|((try simp only [Exit.inBlock,Exit.then]);refine bodyPost_ret (results_none rfl _ _ _) rfl ?_)
    exact ⟨by first|rfl|(simp [errW_none,errW_some] <;>rfl)|(simp [*,errW_none,errW_some] <;>rfl),uR HO_1,uB HB,by repeat (first|(with_reducible first|exact HK.out|apply Kept.alloc|apply Kept.drewN|apply Kept.drew|refine Kept.setCell ?_ (.inr GW152.out) _)|exact HK.out)⟩
def slices_Reverse_int_int.l0 : Nat → List Int → Int → Int → Option (List Int)
 |0,_,_,_=>none
 |k+1,x0,x2,x3=>if x2<x3 then (if 0≤x3 then (if x3<(x0.length:Int) then (if 0≤x2 then (if x2<(x0.length:Int) then (slices_Reverse_int_int.l0 k ((x0.set (x2:Int).toNat (rd x0 x3)).set (x3:Int).toNat (rd x0 x2)) (wrap64 (x2+1)) (wrap64 (x3 - 1))) else (none)) else (none)) else (none)) else (none)) else (some x0)
def slices_Reverse_int_int.f (k : Nat) (l0 : List Int) : Option (List Int) := slices_Reverse_int_int.l0 k l0 0 (wrap64 ((l0.length : Int) - 1))
theorem slices_Reverse_int_int.mono_l : ∀ k, (∀ y0 y1 y2, LeO (slices_Reverse_int_int.l0 k y0 y1 y2) (slices_Reverse_int_int.l0 (k + 1) y0 y1 y2))
 |0=>fun _ _ _ r h=>by simp [slices_Reverse_int_int.l0] at h
 |k+1=>by
  have ih0:=slices_Reverse_int_int.mono_l k
  ·
   intro y0 y1 y2;unfold slices_Reverse_int_int.l0
   repeat' first
   |(with_reducible exact ih0 _ _ _)
   |(with_reducible exact LeO.refl _)
   |(with_reducible exact LeO.none _)
   |(with_reducible refine LeO.ite ?_ ?_)
   |(with_reducible refine LeO.bind ?_ (fun _=> ?_))
   |exact ih0 _ _ _
   |exact LeO.none _
   |refine LeO.ite ?_ ?_
   |refine LeO.bind ?_ (fun _=> ?_)
theorem slices_Reverse_int_int.mono : ∀ a0 k, LeO (slices_Reverse_int_int.f k a0) (slices_Reverse_int_int.f (k + 1) a0) := by
 intro a0 k;have ih0:=slices_Reverse_int_int.mono_l k;unfold slices_Reverse_int_int.f
 repeat' first
  |(with_reducible exact ih0 _ _ _)
  |(with_reducible exact LeO.refl _)
  |(with_reducible exact LeO.none _)
  |(with_reducible refine LeO.ite ?_ ?_)
  |(with_reducible refine LeO.bind ?_ (fun _=> ?_))
  |exact ih0 _ _ _
  |exact LeO.none _
  |refine LeO.ite ?_ ?_
  |refine LeO.bind ?_ (fun _=> ?_)
def slices_Reverse_int_int.T3 : Bool × List (List Nat × List Nat) := (true, [([], []), ([], []), ([], []), ([], []), ([], []), ([], []), ([4, 5], [4, 5]), ([6], [6]), ([], []), ([], []), ([8, 9], [8, 9]), ([10], [10]), ([0, 1, 0, 1, 4, 5, 6, 7, 11], [0, 1]), ([12, 7, 0, 1, 4, 5, 6, 7, 11], [7, 12]), ([2, 3, 0, 1, 2, 3, 4, 5, 6, 7, 8, 9, 10, 11, 12, 13], [2, 3]), ([14, 11, 13, 0, 1, 2, 3, 4, 5, 6, 7, 8, 9, 10, 11, 12, 13], [11, 14])])
def slices_Reverse_int_int.B3 : List Nat := [0, 0, 0, 0, 0, 0, 48, 112, 0, 0, 768, 1792, 4083, 8179, 16383, 32767]
theorem slices_Reverse_int_int.tab3 : rtab .any (opsOf Try.f93 3) = slices_Reverse_int_int.T3 := by kernel_rfl
theorem slices_Reverse_int_int.bits3 : waitsOk slices_Reverse_int_int.T3.2 slices_Reverse_int_int.B3 = true := by kernel_rfl
set_option maxHeartbeats 8000000 in
set_option maxRecDepth 100000 in
theorem slices_Reverse_int_int.calls (k : Nat) (P0_ : Nat → Prop) (u9000_ : Value) (l0 : List Int) (r : List Int) (w0 w : World) (hB : Below w0.heap.size w0 w) (ho0 : Kd.R (Kd.int .i64) 3 w w0.heap.size P0_ u9000_ l0) (h : slices_Reverse_int_int.f k l0 = some r) :
 Calls Try.prog 93 #[u9000_] w fun e w'=>e= .returned (.tuple #[])∧Kd.R (Kd.int .i64) 3 w' w0.heap.size (fun k_=>(P0_ k_∨w.heap.size≤k_)) u9000_ r∧Below w0.heap.size w0 w'∧Kept w w' (fun k_=>P0_ k_):=by
 have HO0:=Aside0.mk (show Kd.R (Kd.int .i64) 3 w w0.heap.size (fun k_=>(P0_ k_∨w.heap.size≤k_)) u9000_ l0 from Kd.R_mono ho0 (fun k_ hk=>(.inl hk)));have HK:=Aside0.mk (Kept.refl w (fun k_=>P0_ k_));have HW0:=Aside0.mk hB.size;have HB:=Aside0.mk hB;clear hB;have H:(slices_Reverse_int_int.l0 k l0 0 (wrap64 ((l0.length:Int) - 1)))=some r:=h;clear h;have H':=Aside0.mk H;clear H;obtain ⟨Ao2,co2,eo2⟩:=Kd.R_slice HO0.out;subst eo2;go_enter Try.func93,Try.ntmps93;go_wp2
 go_loopg [2,3] k (fun kq v2 v3 w'=> ∃ (x0_1:List Int) (x2_1:Int) (x3_1:Int),v2= .int .i64 x2_1∧v3= .int .i64 x3_1∧Aside0 (slices_Reverse_int_int.l0 kq x0_1 x2_1 x3_1=some r)∧Aside0 (kq≤k)∧Aside0 (Kd.R (Kd.int .i64) 3 w' w0.heap.size (fun k_=>(P0_ k_∨w.heap.size≤k_)) (.slice Ao2 l0.length co2) x0_1)∧Aside0 (Kept w w' (fun k_=>P0_ k_))∧Aside0 (Below w0.heap.size w0 w'))
 case atStart=>exact ⟨(l0),(0),(wrap64 ((l0.length:Int) - 1)),(by first|rfl|(simp;done)|(simp [*];done)),(by first|rfl|(simp;done)|(simp [*];done)),H',⟨Nat.le_refl _⟩,⟨uR HO0⟩,⟨by repeat (first|(with_reducible first|exact HK.out|apply Kept.alloc|apply Kept.drewN|apply Kept.drew)|exact HK.out)⟩,⟨uB HB⟩⟩
 case round=>
  clear H'
  try clear p2
  obtain ⟨x0_1,x2_1,x3_1,rfl,rfl,HA,HK1,HO_0,HK,HB⟩:=hrel;have hl0_1:=(Kd.R_reads' HO_0.out).1;rw [hl0_1] at HO_0
  (try simp only [hl0_1])
  cases gk with
  |zero=>exact absurd HA.out (by simp [slices_Reverse_int_int.l0])
  |succ k1=>
   have H:=HA.out;clear HA;simp only [slices_Reverse_int_int.l0] at H
   by_cases c3:x2_1<x3_1
   ·
    rw [if_pos c3] at H;have c3b0:=decide_eq_true c3;clear c3
    by_cases c4:0≤x3_1
    ·
     rw [if_pos c4] at H;have c4b0:=decide_eq_true c4;clear c4
     by_cases c5:x3_1<(x0_1.length:Int)
     ·
      rw [if_pos c5] at H;have c5b0:=decide_eq_true c5;clear c5
      by_cases c6:0≤x2_1
      ·
       rw [if_pos c6] at H;have c6b0:=decide_eq_true c6;clear c6
       by_cases c7:x2_1<(x0_1.length:Int)
       ·
        rw [if_pos c7] at H;have c7b0:=decide_eq_true c7;clear c7;obtain ⟨y160,hy160⟩: ∃ y_:List Int,y_=(x0_1.set (x2_1:Int).toNat (rd x0_1 x3_1)):=⟨_,rfl⟩
        replace H:(slices_Reverse_int_int.l0 k1 (y160.set (x3_1:Int).toNat (rd x0_1 x2_1)) (wrap64 (x2_1+1)) (wrap64 (x3_1 - 1)))=some r:=by first|(rw [hy160];with_reducible exact H)|(have H2_:=(Option.bind_some _ _).symm.trans H;rw [hy160];with_reducible exact H2_)|(have H2_:=(Option.bind_some _ _).symm.trans H;with_reducible exact H2_)|with_reducible exact H|(rw [hy160];exact H)|exact H
        have Ny160:=Aside0.mk hy160;clear hy160;obtain ⟨y161,hy161⟩: ∃ y_:List Int,y_=(y160.set (x3_1:Int).toNat (rd x0_1 x2_1)):=⟨_,rfl⟩
        replace H:(slices_Reverse_int_int.l0 k1 y161 (wrap64 (x2_1+1)) (wrap64 (x3_1 - 1)))=some r:=by first|(rw [hy161];with_reducible exact H)|(have H2_:=(Option.bind_some _ _).symm.trans H;rw [hy161];with_reducible exact H2_)|(have H2_:=(Option.bind_some _ _).symm.trans H;with_reducible exact H2_)|with_reducible exact H|(rw [hy161];exact H)|exact H
        have Ny161:=Aside0.mk hy161;clear hy161;have H':=Aside0.mk H;clear H
        try go_wp2
        replace HO_0:=Aside0.mk (Kd.R_drew HO_0.out);replace HK:=Aside0.mk (Kept.drew HK.out);replace HB:=Aside0.mk (below_drew1 HB.out);have p158:0≤(x3_1:Int):=of_decide_eq_true (by first|(with_reducible assumption)|assumption);have q158:x3_1<(x0_1.length:Int):=of_decide_eq_true (by first|(with_reducible assumption)|assumption);obtain ⟨ad158,e158,hx158_0⟩:=Kd.at_int (Kd.R_reads' HO_0.out).2.2 x3_1 p158 q158;cases e158;replace p158:=eq_true p158;replace q158:=eq_true q158;have p159:0≤(x2_1:Int):=of_decide_eq_true (by first|(with_reducible assumption)|assumption);have q159:x2_1<(x0_1.length:Int):=of_decide_eq_true (by first|(with_reducible assumption)|assumption);obtain ⟨ad159,e159,hx159_0⟩:=Kd.at_int (Kd.R_reads' HO_0.out).2.2 x2_1 p159 q159;obtain rfl:ad158=ad159:=(by injection e159)
        replace p159:=eq_true p159;replace q159:=eq_true q159;have p8:0≤(x2_1:Int):=of_decide_eq_true (by first|(with_reducible assumption)|assumption);have q8:(x2_1:Int)<((x0_1.length:Int):Int):=of_decide_eq_true (by first|(with_reducible assumption)|assumption);obtain ⟨go8,co8,eo8,gb8,gl8,cl8,HG8⟩:=Kd.R_form HO_0.out (by omega)
        (first|cases eo8|(injection eo8 with ea_ en_ ec_;(first|subst ea_|(injection ea_ with ea_;subst ea_));subst ec_;clear en_))
        have GB8:=Aside0.mk gb8;have GG8:=Aside0.mk HG8;clear gb8 gl8 HG8;have HMgo8:=Aside0.mk (show (P0_ go8∨w.heap.size≤go8) from (HO_0.out.1 _ rfl))
        (first|simp only [add_plain] at hx158_0|skip)
        (first|simp only [add_plain] at hx159_0|skip)
        obtain ⟨hx8_0,hf8_0⟩:=Kd.R_celln 0 HO_0.out (x2_1:Int) p8 q8;replace p8:=eq_true p8;replace q8:=eq_true q8;have HP11:=Kd.R_putn HO_0.out (x2_1:Int) (rd x0_1 x3_1);rw [←Ny160.out] at HP11;have HQ11:=Aside0.mk HP11;clear HP11;have p9:0≤(x3_1:Int):=of_decide_eq_true (by first|(with_reducible assumption)|assumption);have q9:(x3_1:Int)<((x0_1.length:Int):Int):=of_decide_eq_true (by first|(with_reducible assumption)|assumption);obtain ⟨hx9_0,hf9_0⟩:=Kd.R_celln 0 HQ11.out (x3_1:Int) p9 q9;replace p9:=eq_true p9;replace q9:=eq_true q9;have HP12:=Kd.R_putn HQ11.out (x3_1:Int) (rd x0_1 x2_1);rw [←Ny161.out] at HP12;have HQ12:=Aside0.mk HP12;clear HP12;refine sU (n:=16) (S:=fun w'=>w'.cell? ⟨go8,(x3_1).toNat,none⟩=some (.int .i64 (rd x0_1 x3_1))∧w'.cell? ⟨go8,(x2_1).toNat,none⟩=some (.int .i64 (rd x0_1 x2_1))) (ds:= [13,15]) ⟨hx158_0,hx159_0⟩ (fun hHeld=> ?_);refine with_tabW slices_Reverse_int_int.tab3 slices_Reverse_int_int.bits3 (fun HT_ HW_=> ?_);generalize wr.drew=w10 at HO_0 HK HB GG8 HQ11 HQ12 hf8_0 hf9_0 hx158_0 hx159_0 hx8_0 hx9_0 hHeld ⊢;refine pU 0 14 ?_;refine pU 1 15 ?_;refine pU 2 16 ?_;refine pU 3 17 ?_;refine pU 4 18 ?_;refine pU 5 19 ?_;refine pU 6 20 ?_;refine pU 8 22 ?_;refine pU 9 23 ?_;refine pU 10 24 ?_;refine tW 7 21 hHeld ?_;refine tW 11 25 hHeld ?_;refine pU 12 26 ?_;refine lU 13 none fun K hK=> ?_
        refine sK ?_;refine hK.out _ _ ?_;clear hK K;refine pU 14 27 ?_;refine lU 15 none fun K hK=> ?_
        refine sK ?_;refine hK.out _ _ ?_;clear hK K;refine dU ?_
        try go_wp2
        (try simp only [←hl0_1])
        go_roundg k1
        case measure=>have:=HK1.out;omega
        case rel=>exact ⟨(y161),(wrap64 (x2_1+1)),(wrap64 (x3_1 - 1)),(by first|rfl|(simp;done)|(simp [*];done)),(by first|rfl|(simp;done)|(simp [*];done)),H',⟨by have:=HK1.out;omega⟩,⟨by (try simp only [hl0_1]);(with_reducible repeat (first|apply Kd.R_alloc|apply Kd.R_drewN|apply Kd.R_drew));exact HQ12.out⟩,⟨by repeat (first|(with_reducible first|exact HK.out|apply Kept.alloc|apply Kept.drewN|apply Kept.drew|refine Kept.setCell ?_ HMgo8.out _|refine Kept.setCell ?_ HMgo8.out _)|exact HK.out)⟩,⟨by repeat (first|(with_reducible first|exact HB.out|apply below_alloc|apply pw_below_drewN|apply below_drew1|refine below_set ?_ GB8.out|refine below_set ?_ GB8.out)|exact HB.out)⟩⟩
       ·
        rw [if_neg c7] at H;exact absurd H (by simp)
      ·
       rw [if_neg c6] at H;exact absurd H (by simp)
     ·
      rw [if_neg c5] at H;exact absurd H (by simp)
    ·
     rw [if_neg c4] at H;exact absurd H (by simp)
   ·
    rw [if_neg c3] at H;have c3b0:=decide_eq_false c3;clear c3;obtain rfl:=Option.some.inj H;go_wp2
    first|go_end0|((try simp only [Exit.inBlock,Exit.then]);refine bodyPost_ret (results_none rfl _ _ _) rfl ?_)
    exact ⟨by first|rfl|(simp [errW_none,errW_some] <;>rfl)|(simp [*,errW_none,errW_some] <;>rfl),(by first|exact (uR HO_0)|(simp only [hl0_1];exact (uR HO_0))),uB HB,by repeat (first|(with_reducible first|exact HK.out|apply Kept.alloc|apply Kept.drewN|apply Kept.drew)|exact HK.out)⟩
end Go.Proofs.Ytkgngggppcmpfaa.L
end
