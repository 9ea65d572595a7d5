/- Laws about the given program: the law FnRowvacuation answers true for every input that its row lets in; no condition is added to the given statement. Contracts of the Go functions that it reaches, and the plain proof over lists. -/
import Derived.ArgAppend
import Derived.Below
import Derived.BigQuiet
import Derived.Deep.AppendLies
import Derived.Deep.CutBlock
import Derived.Deep.DeepCutAuto
import Derived.Deep.Draws
import Derived.Deep.LoopGhost
import Derived.Deep.OwnRows
import Derived.Deep.QuietTactic
import Derived.Deep.RegionHeld3
import Derived.Deep.RegionLaw
import Derived.KernelRfl
import Derived.Laws.BitsLemmas
import Derived.Laws.BytesArg
import Derived.Laws.IdiomCopy
import Derived.Laws.MakeOwn
import Derived.Laws.OwnMore
import Derived.Laws.Rows
import Derived.Laws.Slices
import Derived.Lib.AppendStr
import Derived.Lib.ConvBytes
import Derived.Lib.SliceRun
import Derived.Maps.AppendAt
import Derived.Maps.OwnOps
import Derived.Maps.OwnSet
import Derived.Maps.RangeWalk
import Derived.OrdersHeld
import Derived.OwnWalk
import Derived.RowKit
import Derived.RowKit3
import Derived.Shelf.Abstract
import Derived.Shelf.SlGeneric
import Derived.Shelf.SortM.Plain
import Derived.Shelf.SortM.SortNone
import Derived.Tactics
import Derived.Test.YtkgngggppcmpfaaGreatProg
import Derived.WalkKit
import Derived.WalkSpells
import Derived.WideLaws
import Derived.Test.YtkgngggppcmpfaaGreatWFnRowvacuation0
section
namespace Go.Proofs.YtkgngggppcmpfaaGreat.X
open Go.RowKit Go.Proofs.YtkgngggppcmpfaaGreatW.PrintWords Go.Proofs.YtkgngggppcmpfaaGreatW.PrintLast Go.Proofs.YtkgngggppcmpfaaGreatW.PrintMore
set_option linter.unusedVariables false
def Fv (P : Program) (g : Nat) (lb : Array Value) (args : Array Value) (r : Value) (w : World) : Prop :=
 ∀ W, Below w.heap.size w W → Calls P g (args ++ lb) W fun e w' => e = .returned r ∧ Below W.heap.size W w'
theorem Fv.calls {P : Program} {g : Nat} {lb args : Array Value} {r : Value} {w W : World} (h : Fv P g lb args r w) (hb : Below w.heap.size w W) :
  Calls P g (args ++ lb) W fun e w' => e = .returned r ∧ Below W.heap.size W w' := h W hb
theorem Fv.later {P : Program} {g : Nat} {lb args : Array Value} {r : Value} {w W : World} (h : Fv P g lb args r w) (hb : Below w.heap.size w W) : Fv P g lb args r W :=
 fun W' hb' => h W' (hb.trans (hb'.mono hb.size))
theorem Qdj {w W w' : World} (h : Below w.heap.size w W) (h' : Below W.heap.size W w') : Below w.heap.size w w' := h.trans (h'.mono h.size)
def Qfh (p : Int → Bool) : List Int → Nat → Int
 | [], _ => -1
 | x :: l, i => if p x then (i : Int) else Qfh p l (i + 1)
def Qj5 (p : Int → Bool) (l : List Int) : Int := Qfh p l 0
theorem Qki (p : Int → Bool) : ∀ (l : List Int) (i : Nat), (0 ≤ Qfh p l i) ↔ l.any p = true
 | [], i => by simp [Qfh]
 | x :: l, i => by
  unfold Qfh
  by_cases h : p x = true
  ·
   rw [if_pos h]; simp [h]
  ·
   rw [if_neg h, Qki p l (i + 1)]; simp [h]
theorem row_at {e : Nat} {w : World} {A : Option Addr} {n : Nat} {xs : List (List Int)} (h : Kd.C (Kd.slice e (Kd.int .i64)) w A n xs) (i : Nat) (hi : i < n) :
  ∃ ad A0 c0, A = some ad ∧ w.cell? (ad.add i) = some (.slice A0 (xs.getD i []).length c0) ∧ (xs.getD i []).length ≤ c0 ∧ (Kd.int .i64).C w A0 (xs.getD i []).length (xs.getD i []) := by
 obtain ⟨ad, c, ea, _, hK, hc0⟩ := Kd.C_get h ([] : List Int) (i : Int) (by omega) (by omega)
 obtain ⟨A0, c0, rfl, l0, g0⟩ := hK
 rw [Int.toNat_natCast] at hc0 l0 g0
 refine ⟨ad, A0, c0, ea, ?_, l0, g0⟩
 have hq := hc0 0 _ rfl
 have e1 : i * (Kd.slice e (Kd.int .i64)).sz + 0 = i := by show i * 1 + 0 = i; omega
 rwa [e1] at hq
def Qfs (p : List Int → Bool) : List (List Int) → Nat → Int
 | [], _ => -1
 | x :: l, i => if p x then (i : Int) else Qfs p l (i + 1)
def Qlo (p : List Int → Bool) (l : List (List Int)) : Int := Qfs p l 0
theorem Qjl (p : List Int → Bool) : ∀ (l : List (List Int)) (i : Nat), (0 ≤ Qfs p l i) ↔ l.any p = true
 | [], i => by simp [Qfs]
 | x :: l, i => by
  unfold Qfs
  by_cases h : p x = true
  ·
   rw [if_pos h]; simp [h]
  ·
   rw [if_neg h, Qjl p l (i + 1)]; simp [h]
def FvL (P : Program) (g : Nat) (lb : Array Value) (x : List Int) (r : Value) (w : World) : Prop :=
 ∀ W A c, Below w.heap.size w W → Kd.C (Kd.int .i64) W A x.length x → x.length ≤ c → Calls P g (#[.slice A x.length c] ++ lb) W fun e w' => e = .returned r ∧ Below W.heap.size W w'
theorem FvL.calls {P : Program} {g : Nat} {lb : Array Value} {x : List Int} {r : Value} {w W : World} {A : Option Addr} {c : Nat} (h : FvL P g lb x r w) (hb : Below w.heap.size w W) (hc : Kd.C (Kd.int .i64) W A x.length x) (hl : x.length ≤ c) :
  Calls P g (#[.slice A x.length c] ++ lb) W fun e w' => e = .returned r ∧ Below W.heap.size W w' := h W A c hb hc hl
class Ltr (w W : World) : Prop where out : Below w.heap.size w W
section
variable {α : Type} {d : Kd α} {e base n g : Nat} {ok : Nat → Prop} {w0 w W W1 : World} {v : Value} {xs : List α} {A : Option Addr} {q : Obj}
instance lr0 : Ltr w w := ⟨Below.refl _ _⟩
instance lr1 (o : Obj) [h : Ltr w W] : Ltr w (W.alloc o) := ⟨Qo h.out o⟩
instance lr2 (m : Nat) [h : Ltr w W] : Ltr w (W.drewN m) := ⟨Qq h.out m⟩
instance lr3 [h : Ltr w W] : Ltr w W.drew := ⟨Qy h.out⟩
theorem uR (h : Aside0 (d.R e w base ok v xs)) [l : Ltr w W] : d.R e W base ok v xs := Kd.R_below h.out l.out
theorem uC (h : Aside0 (d.C w A n xs)) [l : Ltr w W] : d.C W A n xs := Kd.C_below h.out l.out
theorem uD (h : Aside0 (d.C w A n xs)) (b : Aside0 (Below w.heap.size w W)) [l : Ltr W W1] : d.C W1 A n xs := Kd.C_below (Kd.C_below h.out b.out) l.out
theorem uB (h : Aside0 (Below w0.heap.size w0 w)) [l : Ltr w W] : Below w0.heap.size w0 W := h.out.trans (l.out.mono h.out.size)
theorem uK (h : Aside0 (w.heap[g]? = some q)) [l : Ltr w W] : W.heap[g]? = some q := (l.out.block g (Qcc h.out)).trans h.out
theorem uS (h : Aside0 (Kd.S d e w base ok v xs)) [l : Ltr w W] : Kd.S d e W base ok v xs := Kd.S_below h.out l.out
theorem uE {c : Nat} (h : Aside0 (d.R e w base ok (.slice A n c) xs)) [l : Ltr w W] : d.C W A xs.length xs := Kd.C_below (Kd.R_reads' h.out).2.2 l.out
theorem uP {row : Option Nat} (h : Aside0 (Qg w0 w g row)) [l : Ltr w W] : Qg w0 W g row := h.out.trans (Qg.of_below l.out g row) (.inl rfl)
theorem bs {α β : Type} {a : Option α} {f : α → Option β} {r : β} (h : a.bind f = some r) : ∃ t, Aside0 (a = some t) ∧ f t = some r := by
 obtain ⟨t, h1, h2⟩ := Option.bind_eq_some_iff.mp h; exact ⟨t, ⟨h1⟩, h2⟩
end
section
variable {P : Program} {ops : Array Oper} {rest : List Oper} {o : Oper} {a : Act} {Q : Exit → Act → World → Prop} {w : World}
theorem gA {f : FuncId} {fn : Func} {aa : Array Operand} {ts : Array TypeId} (N : Option Tmp) (hf : P.funcs[f]? = some fn) (args : Array Value)
  (h : Calls P f args w fun e w' => ∃ v, e = .returned v ∧ wpList P ops Q rest (a.put N v) w')
  (hd : o.dst = N := by rfl) (hg : o.guard = none := by rfl) (hop : o.op = .call { callee := .value (.func f), args := aa, argTypes := ts } := by with_reducible rfl)
  (hname : (fn.name == "runtime.NumGoroutine") = false := by as_aux_lemma => kernel_rfl) (hb : fn.body.isSome = true := by rfl)
  (hargs : aa.map a.eval = args := by (try simp only [List.map_toArray, List.map_cons, List.map_nil]); first | done | rfl | (simp only [List.length_drop, List.length_take]; rfl)) : wpList P ops Q (o :: rest) a w :=
 Qeu N hd hg hf hname hb args hop hargs h
theorem bE {N : Tmp} {cs : Array Value} {t : TypeId}
  (h : ∀ g, g = w.heap.size → ∀ w1, w1.heap[g]? = some (.cells cs t (0, 0)) → Below w.heap.size w w1 → wpList P ops Q rest (a.put o.dst (.pointer (some ⟨g, 0, none⟩))) w1)
  (hd : o.dst = some N := by with_reducible rfl) (hg : o.guard = none := by rfl)
  (hr : (execOp a.eval o).run P w = .ok (.value (.pointer (some ⟨w.heap.size, 0, none⟩))) (w.alloc (.cells cs t (0, 0))) := by first | (go_simp; done) | (go_simp; rfl)) : wpList P ops Q (o :: rest) a w :=
 Qe3 hg hd hr h
end
section
variable {P : Program} {ops : Array Oper} {Q : Exit → Act → World → Prop} {md : Region.Mode} {S : World → Prop} {ds : List Nat}
variable {v : Value} {fuel : Nat} {l : Array Bool} {a a' : Act} {w w1 : World} {oi : Oper} {T : Bool × List (List Nat × List Nat)} {B : List Nat}
theorem pU (i N : Nat) (h : Qb7 P md ops Q S ds fuel (l.setIfInBounds i true) a' w) (hT : rtab md ops = T := by exact HT_.out)
  (hi : ops[i]? = some oi := by rfl) (hN : oi.dst = some N := by rfl) (hc : anyT T l.toList (l.setIfInBounds i true).toList i = true := by kernel_rfl)
  (hy : Yields P ops oi v a := by exact Or.inl ⟨by rfl, by (intro w'; go_simp; with_reducible rfl)⟩)
  (hQ : ∀ c a w, Q (.panic c) (a.put oi.dst v) w → Q (.panic c) a w := by exact fun _ _ _ h => h) (ha : a.put (some N) v = a' := by (simp only [Act.put, List.setIfInBounds_toArray, List.set_cons_zero, List.set_cons_succ, Qcu, Qef]; rfl)) : Qb7 P md ops Q S ds (fuel + 1) l a w :=
 pure_ _ hi hN (any_of hT hc) hQ hy ha h
theorem pV (i N : Nat) (h : Qb7 P md ops Q S ds fuel (l.setIfInBounds i true) a' w)
  (hi : ops[i]? = some oi := by rfl) (hN : oi.dst = some N := by rfl) (hc : anyB md ops l (l.setIfInBounds i true) i = true := by kernel_rfl)
  (hy : Yields P ops oi v a := by exact Or.inl ⟨by rfl, by (intro w'; go_simp; with_reducible rfl)⟩)
  (hQ : ∀ c a w, Q (.panic c) (a.put oi.dst v) w → Q (.panic c) a w := by exact fun _ _ _ h => h) (ha : a.put (some N) v = a' := by (simp only [Act.put, List.setIfInBounds_toArray, List.set_cons_zero, List.set_cons_succ, Qcu, Qef]; rfl)) : Qb7 P md ops Q S ds (fuel + 1) l a w :=
 pure_ _ hi hN hc hQ hy ha h
theorem tU (i N : Nat) (hS : S w) (h : Qb7 P md ops Q S ds fuel (l.setIfInBounds i true) a' w) (hT : rtab md ops = T := by exact HT_.out) (hW : Qd9 T.2 B = true := by exact HW_.out)
  (hi : ops[i]? = some oi := by rfl) (hN : oi.dst = some N := by rfl) (hc : takeW T B ds l.toList (l.setIfInBounds i true).toList i = true := by kernel_rfl)
  (hy : YieldsIf P ops S oi v a := by exact Or.inl ⟨by rfl, by (intro w' s0; go_simp; with_reducible rfl)⟩)
  (hQ : ∀ c a w, Q (.panic c) (a.put oi.dst v) w → Q (.panic c) a w := by exact fun _ _ _ h => h) (ha : a.put (some N) v = a' := by (simp only [Act.put, List.setIfInBounds_toArray, List.set_cons_zero, List.set_cons_succ, Qcu, Qef]; rfl)) : Qb7 P md ops Q S ds (fuel + 1) l a w :=
 take_ _ hi hN (Qga hT hW hc) hQ hy hS ha h
theorem tW (i N : Nat) (hS : S w) (h : Qb7 P md ops Q S ds fuel (l.setIfInBounds i true) a' w) (hT : rtab md ops = T := by exact HT_.out) (hW : Qd9 T.2 B = true := by exact HW_.out)
  (hi : ops[i]? = some oi := by rfl) (hN : oi.dst = some N := by rfl) (hc : takeW T B ds l.toList (l.setIfInBounds i true).toList i = true := by kernel_rfl)
  (hy : YieldsIf P ops S oi v a := by exact Or.inl ⟨by rfl, by (rintro w' ⟨s0, s1⟩; go_simp; with_reducible rfl)⟩)
  (hQ : ∀ c a w, Q (.panic c) (a.put oi.dst v) w → Q (.panic c) a w := by exact fun _ _ _ h => h) (ha : a.put (some N) v = a' := by (simp only [Act.put, List.setIfInBounds_toArray, List.set_cons_zero, List.set_cons_succ, Qcu, Qef]; rfl)) : Qb7 P md ops Q S ds (fuel + 1) l a w :=
 take_ _ hi hN (Qga hT hW hc) hQ hy hS ha h
theorem tV (i N : Nat) (hS : S w) (h : Qb7 P md ops Q S ds fuel (l.setIfInBounds i true) a' w)
  (hi : ops[i]? = some oi := by rfl) (hN : oi.dst = some N := by rfl) (hc : Qkb md ops ds l (l.setIfInBounds i true) i = true := by kernel_rfl)
  (hy : YieldsIf P ops S oi v a := by exact Or.inl ⟨by rfl, by (intro w' s0; go_simp; with_reducible rfl)⟩)
  (hQ : ∀ c a w, Q (.panic c) (a.put oi.dst v) w → Q (.panic c) a w := by exact fun _ _ _ h => h) (ha : a.put (some N) v = a' := by (simp only [Act.put, List.setIfInBounds_toArray, List.set_cons_zero, List.set_cons_succ, Qcu, Qef]; rfl)) : Qb7 P md ops Q S ds (fuel + 1) l a w :=
 take_ _ hi hN hc hQ hy hS ha h
theorem oU (i : Nat) (N : Option Tmp) (h : ∀ K : Act → World → Prop, Shut (∀ a' w', S w' → (S w' → Qb7 P md ops Q S ds fuel (l.setIfInBounds i true) a' w') → K a' w') → if Region.wanted oi (yielded ops a.tmps) = true then Oper.wp P oi a w K Q else K (a.put N undef) w)
  (hT : rtab md ops = T := by exact HT_.out) (hi : ops[i]? = some oi := by rfl) (hN : oi.dst = N := by rfl)
  (hc : (Qhb T.2 l.toList == [i] && l.toList.set i true == (l.setIfInBounds i true).toList) = true := by kernel_rfl) (hd : i ∉ ds := by decide) : Qb7 P md ops Q S ds (fuel + 1) l a w :=
 one_ _ hi hN (one_of hT hc) hd h
theorem oV (i : Nat) (N : Option Tmp) (h : ∀ K : Act → World → Prop, Shut (∀ a' w', S w' → (S w' → Qb7 P md ops Q S ds fuel (l.setIfInBounds i true) a' w') → K a' w') → if Region.wanted oi (yielded ops a.tmps) = true then Oper.wp P oi a w K Q else K (a.put N undef) w)
  (hi : ops[i]? = some oi := by rfl) (hN : oi.dst = N := by rfl)
  (hc : Qhv md ops l (l.setIfInBounds i true) i = true := by kernel_rfl) (hd : i ∉ ds := by decide) : Qb7 P md ops Q S ds (fuel + 1) l a w :=
 one_ _ hi hN hc hd h
theorem lU (i : Nat) (N : Option Tmp) (h : ∀ K : Act → World → Prop, Shut (∀ a' w', Qb7 P md ops Q S ds fuel (l.setIfInBounds i true) a' w' → K a' w') → if Region.wanted oi (yielded ops a.tmps) = true then Oper.wp P oi a w K Q else K (a.put N undef) w)
  (hT : rtab md ops = T := by exact HT_.out) (hi : ops[i]? = some oi := by rfl) (hN : oi.dst = N := by rfl)
  (hc : (Qhb T.2 l.toList == [i] && l.toList.set i true == (l.setIfInBounds i true).toList) = true := by kernel_rfl) (hd : i ∈ ds := by decide) : Qb7 P md ops Q S ds (fuel + 1) l a w :=
 last_ _ hi hN (one_of hT hc) hd h
theorem nU (N : Nat) (h : Qb7 P md ops Q S ds fuel l a' w) (ha : a.put (some N) v = a' := by (simp only [Act.put, List.setIfInBounds_toArray, List.set_cons_zero, List.set_cons_succ, Qcu, Qef]; rfl)) : Qb7 P md ops Q S ds fuel l (a.put (some N) v) w := norm_ ha h
theorem sK {K : Act → World → Prop} (h : K a w1) (hw : Region.wanted oi (yielded ops a.tmps) = true := by rfl) (hN : oi.dst = none := by rfl)
  (hrun : (execOp a.eval oi).run P w = .ok .skip w1 := by (go_simp; rfl)) : if Region.wanted oi (yielded ops a.tmps) = true then Oper.wp P oi a w K Q else K (a.put none undef) w := skip_ hw hN hrun h
theorem sU {id n : Nat} (hS : S w.drew) (h : S w.drew → Qb7 P .any ops Q S ds n (Array.replicate n false) a w.drew)
  (hm : P.follows .mixedOrders = true := by kernel_rfl) (hn : ops.size = n := by rfl) : (Code.region id ops true).wp P Q a w := start_ _ hm hn rfl hS h
theorem dU {n : Nat} (h : Q .normal a w) (hT : rtab md ops = T := by exact HT_.out) (hr : (Qhb T.2 l.toList == []) = true := by kernel_rfl) : Qb7 P md ops Q S ds n l a w := done_ (done_of hT hr) h
end
section
variable {w W : World} {g n b : Nat} {v : Value} {t : TypeId} {f : Nat × Nat} {A : Nat} {row : Option Nat}
theorem bC (h : Aside0 (w.heap[g]? = some (.cells #[v] t (0, 0)))) : w.cell? ⟨g, 0, none⟩ = some v := (Qci (cs := #[v]) (t := t) h.out 0).trans rfl
theorem gV (hg : b = W.heap.size) (h : Below w.heap.size w W) : w.heap.size ≤ b := by rw [hg]; exact Qp h
theorem gW (hg : b = W.heap.size) (h : Qg w W g row) : w.heap.size ≤ b := by rw [hg]; exact Qb3 h
theorem nL (hg : b = n) (h : g < n) : g ≠ b := by rw [hg]; exact Nat.ne_of_lt h
theorem nG (hg : b = n) (h : g < n) : b ≠ g := by rw [hg]; exact Nat.ne_of_gt h
end
end Go.Proofs.YtkgngggppcmpfaaGreat.X
end
section
namespace Go.Proofs.YtkgngggppcmpfaaGreat.X
open Go.RowKit Go.Proofs.YtkgngggppcmpfaaGreatW.PrintWords Go.Proofs.YtkgngggppcmpfaaGreatW.PrintLast Go.Proofs.YtkgngggppcmpfaaGreatW.PrintMore
set_option linter.unusedVariables false
section
variable {α : Type} {d : Kd α} {e base g : Nat} {ok ok' : Nat → Prop} {w W : World} {v : Value} {xs : List α} {cs : Array Value} {t : TypeId}
theorem vB {w0 w W : World} (k : Aside0 (Below w0.heap.size w0 w)) (h : Below w0.heap.size w0 W := by repeat (first | (with_reducible first | exact HB.out | apply Qo | apply Qq | apply Qy | refine Q4 ?_ (Aside0.out (by assumption))) | exact HB.out)) : Below w0.heap.size w0 W := h
theorem vK {w0 w W : World} {row : Option Nat} (k : Aside0 (Qg w0 w g row)) (h : Qg w0 W g row := by repeat (first | (with_reducible first | exact HK.out | apply Qg.set_ | apply Qfa | apply Qeo | apply Qe9 | refine Qgj ?_ (Aside0.out (by assumption)) _) | exact HK.out)) : Qg w0 W g row := h
theorem kF {p : Prop} (h : p := by (repeat (first | (with_reducible first | refine Qk ?_ _ | refine Qj ?_ | refine Qi ?_ _) | refine Qd8 ?_ (Aside0.out (by assumption)) _)); exact Aside0.out (by assumption)) : p := h
theorem bP {p : Prop} (h : p := by (with_reducible repeat (first | refine Qk ?_ _ | refine Qj ?_ | refine Qi ?_ _)); refine Qcs (cs := ?_) ?_ 0 _ ?_; rotate_left; (repeat (first | (with_reducible first | refine Qk ?_ _ | refine Qj ?_ | refine Qi ?_ _) | refine Qd8 ?_ (Aside0.out (by assumption)) _)); exact Aside0.out (by assumption); rfl) : p := h
theorem rF (h : Aside0 (d.R e w base ok v xs)) (b : Aside0 (w.heap[g]? = some (.cells cs t (0, 0)))) (u : Value) [l : Ltr (w.setCell ⟨g, 0, none⟩ u) W] (hd : ∀ q, q ∈ e :: d.E → q ≠ t := by decide) : d.R e W base ok v xs :=
 Kd.R_below (Kd.R_mono (Kd.R_far (p := ⟨g, 0, none⟩) (Kd.R_types h.out b.out hd) (fun _ hk => hk.2) u) (fun _ h_ => h_.1)) l.out
end
theorem gt {P : Program} {ops : Array Oper} {Q : Exit → Act → World → Prop} {o : Oper} {rest : List Oper} {a : Act} {w : World} (h : wpList P ops Q (o :: rest) a w) : wpList P ops Q (o :: rest) a w := h
end Go.Proofs.YtkgngggppcmpfaaGreat.X
end
section
namespace Go.Proofs.YtkgngggppcmpfaaGreat.L
open Go.RowKit Go.Proofs.YtkgngggppcmpfaaGreatW.PrintWords Go.Proofs.YtkgngggppcmpfaaGreatW.PrintLast Go.Proofs.YtkgngggppcmpfaaGreatW.PrintMore
attribute [local go_sem] Qt Qv Q2 Q3 Qm Qn Qu Qw
set_option linter.unusedVariables false
set_option linter.unusedSimpArgs false
def errW : Option Int → Value
 |none=> .nilIface
 |some c=> .iface 0 (.int .i64 c)
theorem Qd : errW none = .nilIface := rfl
theorem Qe (c : Int) : errW (some c) = .iface 0 (.int .i64 c) := rfl
theorem Qfm : (Tryz.prog.info? 3).map (fun i => (i.zero, i.size, i.bytes)) = some (some (.int .i64 0), 1, 8) := by kernel_rfl
theorem info4 : (Tryz.prog.info? 4).map (fun i => (i.zero, i.size, i.bytes)) = some (some (.bool false), 1, 1) := by kernel_rfl
theorem Qfw : (Tryz.prog.info? 24).map (fun i => (i.zero, i.size, i.bytes)) = some (some (.slice none 0 0), 1, 24) := by kernel_rfl
def Qb2 (xs : List (List Int)) (i : Int) : (List Int) := xs.getD i.toNat ([] : List Int)
theorem at_L2 {w : World} {A : Option Addr} {n : Nat} {xs : List (List Int)} (h : Kd.C (Kd.slice 3 (Kd.int .i64)) w A n xs) (i : Int) (h0 : 0 ≤ i) (h1 : i < n) : ∃ ad A0 c0, A = some ad ∧ w.cell? (ad.add i.toNat) = some (.slice A0 (Qb2 xs i).length c0) ∧ (Qb2 xs i).length ≤ c0 ∧ (Kd.int .i64).C w A0 (Qb2 xs i).length (Qb2 xs i) := by
 obtain ⟨ad,c,e,_,hK,hc0⟩:=Kd.C_get h ([] :List Int) i h0 h1;have hc: ∀ j u,c[j]? =some u→w.cell? (ad.add (i.toNat*1+j))=some u:=hc0;obtain ⟨A0,c0,rfl,l0,g0⟩:=hK;exact ⟨ad,A0,c0,e,by have hq:=hc 0 _ rfl;rwa [Nat.mul_one,Nat.add_zero] at hq,l0,g0⟩
structure S26 where
 f0:(List Int)
def z26 : S26 := ⟨([] : List Int)⟩
def k26 : Kd S26 := Kd.iso (Kd.slice 3 (Kd.int .i64)) (fun x : S26 => x.f0)
theorem k26_open {w : World} {x : S26} {cs : List Value} (h : k26.K w x cs) : ∃ A0 c0, cs = [.slice A0 x.f0.length c0] ∧ x.f0.length ≤ c0 ∧ (Kd.int .i64).C w A0 x.f0.length x.f0 := by
 obtain ⟨A0,c0,rfl,l0,g0⟩:=h;exact ⟨A0,c0,rfl,l0,g0⟩
theorem k26_openM {w : World} {base : Nat} {ok : Nat → Prop} {x : S26} {cs : List Value} (h : k26.M w base ok x cs) : ∃ v0, cs = [v0] ∧ (Kd.int .i64).R 3 w base ok v0 x.f0 := by
 obtain ⟨v0,rfl,g0⟩:=h;exact ⟨v0,rfl,g0⟩
theorem k26_mk (w : World) (x : S26) {A0 : Option Addr} {c0 : Nat} (l0 : x.f0.length ≤ c0) (g0 : (Kd.int .i64).C w A0 x.f0.length x.f0) : k26.K w x [.slice A0 x.f0.length c0] := ⟨A0, c0, rfl, l0, g0⟩
theorem k26_mkM (w : World) (base : Nat) (ok : Nat → Prop) (x : S26) {v0 : Value} (g0 : (Kd.int .i64).R 3 w base ok v0 x.f0) : k26.M w base ok x [v0] := ⟨v0, rfl, g0⟩
def Qlx (xs : List S26) (i : Int) : S26 := xs.getD i.toNat z26
theorem at_T26 {w : World} {A : Option Addr} {n : Nat} {xs : List S26} (h : Kd.C k26 w A n xs) (i : Int) (h0 : 0 ≤ i) (h1 : i < n) : ∃ ad A0 c0, A = some ad ∧ w.cell? (ad.add i.toNat) = some (.slice A0 (Qlx xs i).f0.length c0) ∧ (Qlx xs i).f0.length ≤ c0 ∧ (Kd.int .i64).C w A0 (Qlx xs i).f0.length (Qlx xs i).f0 := by
 obtain ⟨ad,c,e,_,hK,hc0⟩:=Kd.C_get h z26 i h0 h1;have hc: ∀ j u,c[j]? =some u→w.cell? (ad.add (i.toNat*1+j))=some u:=hc0;obtain ⟨A0,c0,rfl,l0,g0⟩:=k26_open hK;exact ⟨ad,A0,c0,e,by have hq:=hc 0 _ rfl;rwa [Nat.mul_one,Nat.add_zero] at hq,l0,g0⟩
def rd_L5 (xs : List (List (List Int))) (i : Int) : (List (List Int)) := xs.getD i.toNat ([] : List (List Int))
theorem at_L5 {w : World} {A : Option Addr} {n : Nat} {xs : List (List (List Int))} (h : Kd.C (Kd.slice 24 (Kd.slice 3 (Kd.int .i64))) w A n xs) (i : Int) (h0 : 0 ≤ i) (h1 : i < n) : ∃ ad A0 c0, A = some ad ∧ w.cell? (ad.add i.toNat) = some (.slice A0 (rd_L5 xs i).length c0) ∧ (rd_L5 xs i).length ≤ c0 ∧ (Kd.slice 3 (Kd.int .i64)).C w A0 (rd_L5 xs i).length (rd_L5 xs i) := by
 obtain ⟨ad,c,e,_,hK,hc0⟩:=Kd.C_get h ([] :List (List Int)) i h0 h1;have hc: ∀ j u,c[j]? =some u→w.cell? (ad.add (i.toNat*1+j))=some u:=hc0;obtain ⟨A0,c0,rfl,l0,g0⟩:=hK;exact ⟨ad,A0,c0,e,by have hq:=hc 0 _ rfl;rwa [Nat.mul_one,Nat.add_zero] at hq,l0,g0⟩
def Qf7.f (l0 : List Int) (l1 : List Int) : Option (Bool) := if (l0.length : Int) > 1048576 then (some true) else (some (decide ((l1.length : Int) > (wrap64 (1048576 - (l0.length : Int))))))
set_option maxHeartbeats 8000000 in
set_option maxRecDepth 100000 in
theorem Qf7.calls (A0 : Option Addr) (c0 : Nat) (l0 : List Int) (A1 : Option Addr) (c1 : Nat) (l1 : List Int) (r : Bool) (w : World) (hr0 : Kd.C (Kd.int .u8) w A0 l0.length l0) (hc0 : l0.length ≤ c0) (hr1 : Kd.C (Kd.int .u8) w A1 l1.length l1) (hc1 : l1.length ≤ c1) (h : Qf7.f l0 l1 = some r) :
 Calls Tryz.prog 10 #[.slice A0 l0.length c0, .slice A1 l1.length c1] w fun e w'=>e= .returned (.bool r)∧Drawn0 w w':=by
 have HR0:=Aside0.mk hr0;have HC0:=Aside0.mk hc0;clear hr0 hc0;have HR1:=Aside0.mk hr1;have HC1:=Aside0.mk hc1;clear hr1 hc1;have H:(if (l0.length:Int)>1048576 then (some true) else (some (decide ((l1.length:Int)>(wrap64 (1048576 - (l0.length:Int)))))))=some r:=h;clear h
 by_cases c3:(l0.length:Int)>1048576
 ·
  rw [if_pos c3] at H;have c3b0:=decide_eq_true c3;have c3b1:decide (1048576<l0.length)=true:=decide_eq_true (by omega);clear c3;obtain rfl:=Option.some.inj H;go_enter Tryz.func10,Tryz.ntmps10;go_wp2
  go_ret
  exact ⟨by first|rfl|(simp;done)|(simp [*];done),by repeat (first|exact Drawn0.refl _|apply Drawn0.step)⟩
 ·
  rw [if_neg c3] at H;have c3b0:=decide_eq_false c3;have c3b1:decide (1048576<l0.length)=false:=decide_eq_false (by omega);clear c3;obtain rfl:=Option.some.inj H;go_enter Tryz.func10,Tryz.ntmps10;go_wp2
  go_ret
  exact ⟨by first|rfl|(simp;done)|(simp [*];done),by repeat (first|exact Drawn0.refl _|apply Drawn0.step)⟩
end Go.Proofs.YtkgngggppcmpfaaGreat.L
end
section
namespace Go.Proofs.YtkgngggppcmpfaaGreat.L
open Go.RowKit Go.Proofs.YtkgngggppcmpfaaGreatW.PrintWords Go.Proofs.YtkgngggppcmpfaaGreatW.PrintLast Go.Proofs.YtkgngggppcmpfaaGreatW.PrintMore Go.Proofs.YtkgngggppcmpfaaGreat.X
attribute [local go_sem] Qt Qv Q2 Q3 Qm Qn Qu Qw
set_option linter.unusedVariables false
set_option linter.unusedSimpArgs false
def Qb (w0 W : World) (g : Nat) (f0 : List Int) (f1 : Int) (f2 : Int) : Prop := ∃ A0 c0, W.heap[g]? = some (.cells #[.slice A0 f0.length c0, .int .i64 f1, .int .u64 f2] 94 (0, 0)) ∧ w0.heap.size ≤ g ∧ Kd.C (Kd.int .u8) w0 A0 f0.length f0
theorem Qb.grown {w0 W : World} {g : Nat} {f0 : List Int} {f1 : Int} {f2 : Int} {W1 : World} {row : Option Nat} (h : Qb w0 W g f0 f1 f2) (hw : W.grownBy W1 row) (hne : some g ≠ row) : Qb w0 W1 g f0 f1 f2 := by
 obtain ⟨A0,c0,hb,hg,hr0⟩:=h;exact ⟨A0,c0,Qds hb hw hne,hg,hr0⟩
theorem Qb.own_neN {w0 W : World} {g : Nat} {f0 : List Int} {f1 : Int} {f2 : Int} {α : Type} {d : Kd α} {e : Nat} {base : Nat} {ok : Nat → Prop} {v : Value} {xs : List α} (h : Qb w0 W g f0 f1 f2) (ho : Kd.N d e W base ok v xs) (ht : e ≠ 94) : some g ≠ v.ownBlock := by
 obtain ⟨A0,c0,hb,hg,hr0⟩:=h;exact Kd.N_ne ho hb ht
theorem Qb.fresh {w0 W : World} {g : Nat} {f0 : List Int} {f1 : Int} {f2 : Int} (h : Qb w0 W g f0 f1 f2) : ∀ k, W.heap.size ≤ k → k ≠ g := by
 obtain ⟨A0,c0,hb,hg,hr0⟩:=h;exact Kd.freshB hb
theorem Qb.kept {w0 W : World} {g : Nat} {f0 : List Int} {f1 : Int} {f2 : Int} {W1 : World} {S : Nat → Prop} (h : Qb w0 W g f0 f1 f2) (hk : Kept W W1 S) (hne : ¬ S g) : Qb w0 W1 g f0 f1 f2 := by
 obtain ⟨A0,c0,hb,hg,hr0⟩:=h;exact ⟨A0,c0,blk_kept hb hk hne,hg,hr0⟩
theorem Qb.below {w0 W : World} {g : Nat} {f0 : List Int} {f1 : Int} {f2 : Int} {W1 : World} (h : Qb w0 W g f0 f1 f2) (hw : Below W.heap.size W W1) : Qb w0 W1 g f0 f1 f2 := h.grown (Qip hw none) (by simp)
theorem Qb.u {w0 W : World} {g : Nat} {f0 : List Int} {f1 : Int} {f2 : Int} {W1 : World} (h : Aside0 (Qb w0 W g f0 f1 f2)) [l : Go.Proofs.YtkgngggppcmpfaaGreat.X.Ltr W W1] : Qb w0 W1 g f0 f1 f2 := Qb.below h.out l.out
theorem Qb.alloc {w0 W : World} {g : Nat} {f0 : List Int} {f1 : Int} {f2 : Int} (h : Qb w0 W g f0 f1 f2) (o : Obj) : Qb w0 (W.alloc o) g f0 f1 f2 := h.below (Qo (Below.refl _ _) o)
theorem Qb.drewN {w0 W : World} {g : Nat} {f0 : List Int} {f1 : Int} {f2 : Int} (h : Qb w0 W g f0 f1 f2) (m : Nat) : Qb w0 (W.drewN m) g f0 f1 f2 := h
theorem Qb.drew {w0 W : World} {g : Nat} {f0 : List Int} {f1 : Int} {f2 : Int} (h : Qb w0 W g f0 f1 f2) : Qb w0 W.drew g f0 f1 f2 := h
theorem Qb.at_ {w0 W : World} {g : Nat} {f0 : List Int} {f1 : Int} {f2 : Int} {w' : World} {m : Nat} (hq : W.drewN m = w') (h : Qb w0 W g f0 f1 f2) : Qb w0 w' g f0 f1 f2 := by subst hq; exact Qb.drewN h m
theorem Qb.apart {w0 W : World} {g : Nat} {f0 : List Int} {f1 : Int} {f2 : Int} {α : Type} {d : Kd α} {e : Nat} {base : Nat} {ok : Nat → Prop} {v : Value} {xs : List α} (h : Qb w0 W g f0 f1 f2) (ho : d.R e W base ok v xs) (ht : ∀ q, q ∈ e :: d.E → q ≠ 94) : d.R e W base (fun k => ok k ∧ k ≠ g) v xs := by
 obtain ⟨A0,c0,hb,hg,hr0⟩:=h;exact Kd.R_types ho hb ht
theorem Qb.own_ne {w0 W : World} {g : Nat} {f0 : List Int} {f1 : Int} {f2 : Int} {α : Type} {d : Kd α} {e : Nat} {base : Nat} {ok : Nat → Prop} {v : Value} {xs : List α} (h : Qb w0 W g f0 f1 f2) (ho : d.R e W base ok v xs) (ht : e ≠ 94) : some g ≠ v.ownBlock := by
 obtain ⟨A0,c0,hb,hg,hr0⟩:=h;exact Kd.R_ne ho hb ht
theorem Qb.apartQ {w0 W : World} {g : Nat} {f0 : List Int} {f1 : Int} {f2 : Int} {α : Type} {d : Kd α} {e : Nat} {base : Nat} {ok : Nat → Prop} {v : Value} {xs : List α} (h : Qb w0 W g f0 f1 f2) (ho : d.Q e W base ok v xs) (ht : ∀ q, q ∈ e :: d.E → q ≠ 94) : d.Q e W base (fun k => ok k ∧ k ≠ g) v xs := by
 obtain ⟨A0,c0,hb,hg,hr0⟩:=h;exact Kd.Q_types ho hb ht
theorem Qb.own_neQ {w0 W : World} {g : Nat} {f0 : List Int} {f1 : Int} {f2 : Int} {α : Type} {d : Kd α} {e : Nat} {base : Nat} {ok : Nat → Prop} {v : Value} {xs : List α} (h : Qb w0 W g f0 f1 f2) (ho : d.Q e W base ok v xs) (ht : e ≠ 94) : some g ≠ v.ownBlock := by
 obtain ⟨A0,c0,hb,hg,hr0⟩:=h;exact Kd.Q_ne ho hb ht
theorem Qb.apartS {w0 W : World} {g : Nat} {f0 : List Int} {f1 : Int} {f2 : Int} {α : Type} {d : Kd α} {e : Nat} {base : Nat} {ok : Nat → Prop} {v : Value} {xs : List α} (h : Qb w0 W g f0 f1 f2) (ho : d.S e W base ok v xs) (ht : ∀ q, q ∈ e :: d.E → q ≠ 94) : d.S e W base (fun k => ok k ∧ k ≠ g) v xs := by
 obtain ⟨A0,c0,hb,hg,hr0⟩:=h;exact Kd.S_types ho hb ht
theorem Qb.own_neS {w0 W : World} {g : Nat} {f0 : List Int} {f1 : Int} {f2 : Int} {α : Type} {d : Kd α} {e : Nat} {base : Nat} {ok : Nat → Prop} {v : Value} {xs : List α} (h : Qb w0 W g f0 f1 f2) (ho : d.S e W base ok v xs) (ht : e ≠ 94) : some g ≠ v.ownBlock := by
 obtain ⟨A0,c0,hb,hg,hr0⟩:=h;exact Kd.S_ne ho hb ht
theorem Qb.lt {w0 W : World} {g : Nat} {f0 : List Int} {f1 : Int} {f2 : Int} (h : Qb w0 W g f0 f1 f2) : g < W.heap.size := by
 obtain ⟨A0,c0,hb,hg,hr0⟩:=h;exact Qcc hb
theorem Qb.ge {w0 W : World} {g : Nat} {f0 : List Int} {f1 : Int} {f2 : Int} (h : Qb w0 W g f0 f1 f2) : w0.heap.size ≤ g := by
 obtain ⟨A0,c0,hb,hg,hr0⟩:=h;exact hg
theorem Qb.ne_blk {w0 W : World} {g : Nat} {f0 : List Int} {f1 : Int} {f2 : Int} {a : Nat} {cs : Array Value} {t : TypeId} {fr : Nat × Nat} (h : Qb w0 W g f0 f1 f2) (hb2 : W.heap[a]? = some (.cells cs t fr)) (ht : t ≠ 94) : g ≠ a := by
 obtain ⟨A0,c0,hb,hg,hr0⟩:=h;rintro rfl;rw [hb] at hb2;injection hb2 with hb2
 injection hb2 with _ ht2
 exact ht ht2.symm
theorem Qb.far {w0 W : World} {g : Nat} {f0 : List Int} {f1 : Int} {f2 : Int} {p : Addr} (h : Qb w0 W g f0 f1 f2) (hne : g ≠ p.block) (u : Value) : Qb w0 (W.setCell p u) g f0 f1 f2 := by
 obtain ⟨A0,c0,hb,hg,hr0⟩:=h;exact ⟨A0,c0,Qd8 hb hne u,hg,hr0⟩
theorem Qh1 {W : World} {g : Nat} {A0 : Option Addr} {c0 : Nat} {f0 : List Int} {f1 : Int} {f2 : Int} (h : W.heap[g]? = some (.cells #[.slice A0 f0.length c0, .int .i64 f1, .int .u64 f2] 94 (0, 0))) : W.cell? ⟨g, 0, none⟩ = some (.slice A0 f0.length c0) := (Qci h 0).trans rfl
theorem Qh2 {W : World} {g : Nat} {A0 : Option Addr} {c0 : Nat} {f0 : List Int} {f1 : Int} {f2 : Int} (h : W.heap[g]? = some (.cells #[.slice A0 f0.length c0, .int .i64 f1, .int .u64 f2] 94 (0, 0))) : W.cell? ⟨g, 1, none⟩ = some (.int .i64 f1) := (Qci h 1).trans rfl
theorem Qb.set_1 {w0 W : World} {g : Nat} {f0 : List Int} {f1 : Int} {f2 : Int} (h : Qb w0 W g f0 f1 f2) (x : Int) : Qb w0 (W.setCell ⟨g, 1, none⟩ (.int .i64 x)) g f0 x f2 := by
 obtain ⟨A0,c0,hb,hg,hr0⟩:=h;exact ⟨A0,c0,by simpa using Ql6 hb 1 (.int .i64 x),hg,hr0⟩
theorem Qh3 {W : World} {g : Nat} {A0 : Option Addr} {c0 : Nat} {f0 : List Int} {f1 : Int} {f2 : Int} (h : W.heap[g]? = some (.cells #[.slice A0 f0.length c0, .int .i64 f1, .int .u64 f2] 94 (0, 0))) : W.cell? ⟨g, 2, none⟩ = some (.int .u64 f2) := (Qci h 2).trans rfl
theorem Qb.set_2 {w0 W : World} {g : Nat} {f0 : List Int} {f1 : Int} {f2 : Int} (h : Qb w0 W g f0 f1 f2) (x : Int) : Qb w0 (W.setCell ⟨g, 2, none⟩ (.int .u64 x)) g f0 f1 x := by
 obtain ⟨A0,c0,hb,hg,hr0⟩:=h;exact ⟨A0,c0,by simpa using Ql6 hb 2 (.int .u64 x),hg,hr0⟩
theorem Qb.new (w0 W : World) (A0 : Option Addr) (c0 : Nat) (f0 : List Int) (f1 : Int) (f2 : Int) (hB : Below w0.heap.size w0 W) (hr0 : Kd.C (Kd.int .u8) w0 A0 f0.length f0) : Qb w0 (W.alloc (.cells #[.slice A0 f0.length c0, .int .i64 f1, .int .u64 f2] 94)) W.heap.size f0 f1 f2 := ⟨A0, c0, by simpa using heap_alloc_new W _, hB.size, hr0⟩
def Qd0.f (s0_0 : List Int) (s0_1 : Int) (s0_2 : Int) : Option (Int × Int × Int) := if s0_1 < (s0_0.length : Int) then (if 0 ≤ s0_1 then (if (wrap64 (s0_1 + 1)) ≤ (s0_0.length : Int) then (some (wrap64 (rd s0_0 s0_1), wrap64 (s0_1 + 1), IntKind.u64.wrap ((IntKind.u64.wrap ((IntKind.u64.wrap (s0_2 * 6364136223846793005)) + (IntKind.u64.wrap (wrap64 (rd s0_0 s0_1))))) + 1442695040888963407))) else (some (wrap64 (Go.bits .and .u64 ((IntKind.u64.wrap ((IntKind.u64.wrap ((IntKind.u64.wrap (s0_2 * 6364136223846793005)) + (IntKind.u64.wrap (wrap64 (rd s0_0 s0_1))))) + 1442695040888963407)) / 1099511627776) 255), wrap64 (s0_1 + 1), IntKind.u64.wrap ((IntKind.u64.wrap ((IntKind.u64.wrap (s0_2 * 6364136223846793005)) + (IntKind.u64.wrap (wrap64 (rd s0_0 s0_1))))) + 1442695040888963407)))) else (none)) else (if (wrap64 (s0_1 + 1)) ≤ (s0_0.length : Int) then (some (0, wrap64 (s0_1 + 1), IntKind.u64.wrap ((IntKind.u64.wrap ((IntKind.u64.wrap (s0_2 * 6364136223846793005)) + 0)) + 1442695040888963407))) else (some (wrap64 (Go.bits .and .u64 ((IntKind.u64.wrap ((IntKind.u64.wrap ((IntKind.u64.wrap (s0_2 * 6364136223846793005)) + 0)) + 1442695040888963407)) / 1099511627776) 255), wrap64 (s0_1 + 1), IntKind.u64.wrap ((IntKind.u64.wrap ((IntKind.u64.wrap (s0_2 * 6364136223846793005)) + 0)) + 1442695040888963407))))
set_option maxHeartbeats 8000000 in
set_option maxRecDepth 100000 in
theorem Qd0.calls (g : Nat) (s0_0 : List Int) (s0_1 : Int) (s0_2 : Int) (r1 : Int) (r2 : Int) (r3 : Int) (w0 w : World) (hI : Qb w0 w g s0_0 s0_1 s0_2) (hB : Below w0.heap.size w0 w) (h : Qd0.f s0_0 s0_1 s0_2 = some (r1, r2, r3)) :
 Calls Tryz.prog 284 #[.pointer (some ⟨g,0,none⟩)] w fun e w'=>e= .returned (.int .i64 r1)∧Qb w0 w' g s0_0 r2 r3∧Below w0.heap.size w0 w'∧Qg w w' g none:=by
 have HI0:=Aside0.mk hI;have HK:=Aside0.mk (Qg.refl w g none);have HL:=Aside0.mk hB.size;clear hI;have HW0:=Aside0.mk hB.size;have HB:=Aside0.mk hB;clear hB;have H:(if s0_1<(s0_0.length:Int) then (if 0≤s0_1 then (if (wrap64 (s0_1+1))≤(s0_0.length:Int) then (some (wrap64 (rd s0_0 s0_1),wrap64 (s0_1+1),IntKind.u64.wrap ((IntKind.u64.wrap ((IntKind.u64.wrap (s0_2*6364136223846793005))+(IntKind.u64.wrap (wrap64 (rd s0_0 s0_1)))))+1442695040888963407))) else (some (wrap64 (Go.bits .and .u64 ((IntKind.u64.wrap ((IntKind.u64.wrap ((IntKind.u64.wrap (s0_2*6364136223846793005))+(IntKind.u64.wrap (wrap64 (rd s0_0 s0_1)))))+1442695040888963407)) / 1099511627776) 255),wrap64 (s0_1+1),IntKind.u64.wrap ((IntKind.u64.wrap ((IntKind.u64.wrap (s0_2*6364136223846793005))+(IntKind.u64.wrap (wrap64 (rd s0_0 s0_1)))))+1442695040888963407)))) else (none)) else (if (wrap64 (s0_1+1))≤(s0_0.length:Int) then (some (0,wrap64 (s0_1+1),IntKind.u64.wrap ((IntKind.u64.wrap ((IntKind.u64.wrap (s0_2*6364136223846793005))+0))+1442695040888963407))) else (some (wrap64 (Go.bits .and .u64 ((IntKind.u64.wrap ((IntKind.u64.wrap ((IntKind.u64.wrap (s0_2*6364136223846793005))+0))+1442695040888963407)) / 1099511627776) 255),wrap64 (s0_1+1),IntKind.u64.wrap ((IntKind.u64.wrap ((IntKind.u64.wrap (s0_2*6364136223846793005))+0))+1442695040888963407)))))=some (r1,r2,r3):=h;clear h
 by_cases c2:s0_1<(s0_0.length:Int)
 ·
  rw [if_pos c2] at H;have c2b0:=decide_eq_true c2;clear c2
  by_cases c3:0≤s0_1
  ·
   rw [if_pos c3] at H;have c3b0:=decide_eq_true c3;clear c3
   by_cases c4:(wrap64 (s0_1+1))≤(s0_0.length:Int)
   ·
    rw [if_pos c4] at H;have c4b0:=decide_eq_true c4;clear c4;simp only [Option.some.injEq,Prod.mk.injEq] at H;obtain ⟨rfl,rfl,rfl⟩:=H;obtain ⟨ASz5_0,cSz5_0,HGz5,hgz5,HSz5_0⟩:=HI0.out;have hcz5_0:=Qh1 HGz5;have hcz5_1:=Qh2 HGz5;have hcz5_2:=Qh3 HGz5;have hfz5_1:=Qf HGz5 1;have hfz5_2:=Qf HGz5 2;clear HGz5 hgz5;have p101:0≤(s0_1:Int):=of_decide_eq_true (by first|(with_reducible assumption)|assumption);have q101:s0_1<(s0_0.length:Int):=of_decide_eq_true (by first|(with_reducible assumption)|assumption);obtain ⟨ad101,e101,hx101_0⟩:=Kd.at_int HSz5_0 s0_1 p101 q101;cases e101;replace hx101_0:=Qd6 HB.out hx101_0;replace p101:=eq_true p101;replace q101:=eq_true q101;go_enter Tryz.func284,Tryz.ntmps284;go_wp2
    repeat (go_quiet (fail);try go_wp2)
    go_ret
    (try simp only [Int.add_zero])
    exact ⟨by first|rfl|(simp [Qd,Qe] <;>rfl)|(simp [*,Qd,Qe] <;>rfl),by repeat (first|(with_reducible first|exact HI0.out|apply Qb.alloc|apply Qb.drewN|apply Qb.drew|apply Qb.set_1|apply Qb.set_2)|exact HI0.out),by repeat (first|(with_reducible first|exact HB.out|apply Qo|apply Qq|apply Qy|refine Q4 ?_ (Qb.ge HI0.out))|exact HB.out),by repeat (first|(with_reducible first|exact HK.out|apply Qg.set_|apply Qfa|apply Qeo|apply Qe9)|exact HK.out)⟩
   ·
    rw [if_neg c4] at H;have c4b0:=decide_eq_false c4;clear c4;simp only [Option.some.injEq,Prod.mk.injEq] at H;obtain ⟨rfl,rfl,rfl⟩:=H;obtain ⟨ASz6_0,cSz6_0,HGz6,hgz6,HSz6_0⟩:=HI0.out;have hcz6_0:=Qh1 HGz6;have hcz6_1:=Qh2 HGz6;have hcz6_2:=Qh3 HGz6;have hfz6_1:=Qf HGz6 1;have hfz6_2:=Qf HGz6 2;clear HGz6 hgz6;have p101:0≤(s0_1:Int):=of_decide_eq_true (by first|(with_reducible assumption)|assumption);have q101:s0_1<(s0_0.length:Int):=of_decide_eq_true (by first|(with_reducible assumption)|assumption);obtain ⟨ad101,e101,hx101_0⟩:=Kd.at_int HSz6_0 s0_1 p101 q101;cases e101;replace hx101_0:=Qd6 HB.out hx101_0;replace p101:=eq_true p101;replace q101:=eq_true q101;go_enter Tryz.func284,Tryz.ntmps284;go_wp2
    repeat (go_quiet (fail);try go_wp2)
    go_ret
    (try simp only [Int.add_zero])
    exact ⟨by first|rfl|(simp [Qd,Qe] <;>rfl)|(simp [*,Qd,Qe] <;>rfl),by repeat (first|(with_reducible first|exact HI0.out|apply Qb.alloc|apply Qb.drewN|apply Qb.drew|apply Qb.set_1|apply Qb.set_2)|exact HI0.out),by repeat (first|(with_reducible first|exact HB.out|apply Qo|apply Qq|apply Qy|refine Q4 ?_ (Qb.ge HI0.out))|exact HB.out),by repeat (first|(with_reducible first|exact HK.out|apply Qg.set_|apply Qfa|apply Qeo|apply Qe9)|exact HK.out)⟩
  ·
   rw [if_neg c3] at H;exact absurd H (by simp)
 ·
  rw [if_neg c2] at H;have c2b0:=decide_eq_false c2;clear c2
  by_cases c7:(wrap64 (s0_1+1))≤(s0_0.length:Int)
  ·
   rw [if_pos c7] at H;have c7b0:=decide_eq_true c7;clear c7;simp only [Option.some.injEq,Prod.mk.injEq] at H;obtain ⟨rfl,rfl,rfl⟩:=H;obtain ⟨ASz8_0,cSz8_0,HGz8,hgz8,HSz8_0⟩:=HI0.out;have hcz8_0:=Qh1 HGz8;have hcz8_1:=Qh2 HGz8;have hcz8_2:=Qh3 HGz8;have hfz8_1:=Qf HGz8 1;have hfz8_2:=Qf HGz8 2;clear HGz8 hgz8;go_enter Tryz.func284,Tryz.ntmps284;go_wp2
   repeat (go_quiet (fail);try go_wp2)
   go_ret
   (try simp only [Int.add_zero])
   exact ⟨by first|rfl|(simp [Qd,Qe] <;>rfl)|(simp [*,Qd,Qe] <;>rfl),by repeat (first|(with_reducible first|exact HI0.out|apply Qb.alloc|apply Qb.drewN|apply Qb.drew|apply Qb.set_1|apply Qb.set_2)|exact HI0.out),by repeat (first|(with_reducible first|exact HB.out|apply Qo|apply Qq|apply Qy|refine Q4 ?_ (Qb.ge HI0.out))|exact HB.out),by repeat (first|(with_reducible first|exact HK.out|apply Qg.set_|apply Qfa|apply Qeo|apply Qe9)|exact HK.out)⟩
  ·
   rw [if_neg c7] at H;have c7b0:=decide_eq_false c7;clear c7;simp only [Option.some.injEq,Prod.mk.injEq] at H;obtain ⟨rfl,rfl,rfl⟩:=H;obtain ⟨ASz9_0,cSz9_0,HGz9,hgz9,HSz9_0⟩:=HI0.out;have hcz9_0:=Qh1 HGz9;have hcz9_1:=Qh2 HGz9;have hcz9_2:=Qh3 HGz9;have hfz9_1:=Qf HGz9 1;have hfz9_2:=Qf HGz9 2;clear HGz9 hgz9;go_enter Tryz.func284,Tryz.ntmps284;go_wp2
   repeat (go_quiet (fail);try go_wp2)
   go_ret
   (try simp only [Int.add_zero])
   exact ⟨by first|rfl|(simp [Qd,Qe] <;>rfl)|(simp [*,Qd,Qe] <;>rfl),by repeat (first|(with_reducible first|exact HI0.out|apply Qb.alloc|apply Qb.drewN|apply Qb.drew|apply Qb.set_1|apply Qb.set_2)|exact HI0.out),by repeat (first|(with_reducible first|exact HB.out|apply Qo|apply Qq|apply Qy|refine Q4 ?_ (Qb.ge HI0.out))|exact HB.out),by repeat (first|(with_reducible first|exact HK.out|apply Qg.set_|apply Qfa|apply Qeo|apply Qe9)|exact HK.out)⟩
end Go.Proofs.YtkgngggppcmpfaaGreat.L
end
section
namespace Go.Proofs.YtkgngggppcmpfaaGreat.L
open Go.RowKit Go.Proofs.YtkgngggppcmpfaaGreatW.PrintWords Go.Proofs.YtkgngggppcmpfaaGreatW.PrintLast Go.Proofs.YtkgngggppcmpfaaGreatW.PrintMore Go.Proofs.YtkgngggppcmpfaaGreat.X
set_option linter.unusedVariables false
theorem Qb.vB {w0 w W : World} (k : Aside0 (Below w0.heap.size w0 w)) (h : Below w0.heap.size w0 W := by repeat (first | (with_reducible first | exact HB.out | apply Qo | apply Qq | apply Qy | refine Q4 ?_ (Qb.ge (Aside0.out (by assumption))) | refine Q4 ?_ (Aside0.out (by assumption))) | exact HB.out)) : Below w0.heap.size w0 W := h
theorem Qb.vI {w0 W : World} {g : Nat} {f0 : List Int} {f1 : Int} {f2 : Int} {W1 : World} {f0_ : List Int} {f1_ : Int} {f2_ : Int} (k : Aside0 (Qb w0 W g f0 f1 f2)) (h : Qb w0 W1 g f0_ f1_ f2_ := by repeat (first | (with_reducible first | exact HI0.out | apply Qb.alloc | apply Qb.drewN | apply Qb.drew | apply Qb.set_1 | apply Qb.set_2 | refine Qb.far ?_ (Aside0.out (by assumption)) _) | exact HI0.out)) : Qb w0 W1 g f0_ f1_ f2_ := h
end Go.Proofs.YtkgngggppcmpfaaGreat.L
end
section
namespace Go.Proofs.YtkgngggppcmpfaaGreat.L
open Go.RowKit Go.Proofs.YtkgngggppcmpfaaGreatW.PrintWords Go.Proofs.YtkgngggppcmpfaaGreatW.PrintLast Go.Proofs.YtkgngggppcmpfaaGreatW.PrintMore Go.Proofs.YtkgngggppcmpfaaGreat.X
attribute [local go_sem] Qt Qv Q2 Q3 Qm Qn Qu Qw
set_option linter.unusedVariables false
set_option linter.unusedSimpArgs false
def Qz.f (s0_0 : List Int) (s0_1 : Int) (s0_2 : Int) (a1 : Int) : Option (Int × Int × Int) := if a1 ≤ 1 then (some (0, s0_1, s0_2)) else ((Qd0.f s0_0 s0_1 s0_2).bind fun bt102 => (if a1 > 200 then ((Qd0.f s0_0 bt102.2.1 bt102.2.2).bind fun bt105 => (if a1 = 0 then (none) else (some (Int.tmod (wrap64 ((wrap64 (bt102.1 * 256)) + bt105.1)) a1, bt105.2.1, bt105.2.2)))) else (if a1 = 0 then (none) else (some (Int.tmod bt102.1 a1, bt102.2.1, bt102.2.2)))))
set_option maxHeartbeats 8000000 in
set_option maxRecDepth 100000 in
theorem Qz.calls (g : Nat) (s0_0 : List Int) (s0_1 : Int) (s0_2 : Int) (a1 : Int) (r1 : Int) (r2 : Int) (r3 : Int) (w0 w : World) (hI : Qb w0 w g s0_0 s0_1 s0_2) (hB : Below w0.heap.size w0 w) (h : Qz.f s0_0 s0_1 s0_2 a1 = some (r1, r2, r3)) :
 Calls Tryz.prog 162 #[.pointer (some ⟨g,0,none⟩), .int .i64 a1] w fun e w'=>e= .returned (.int .i64 r1)∧Qb w0 w' g s0_0 r2 r3∧Below w0.heap.size w0 w'∧Qg w w' g none:=by
 have HI0:=Aside0.mk hI;have HK:=Aside0.mk (Qg.refl w g none);have HL:=Aside0.mk hB.size;clear hI;have HW0:=Aside0.mk hB.size;have HB:=Aside0.mk hB;clear hB;have H:(if a1≤1 then (some (0,s0_1,s0_2)) else ((Qd0.f s0_0 s0_1 s0_2).bind fun bt102=>(if a1>200 then ((Qd0.f s0_0 bt102.2.1 bt102.2.2).bind fun bt105=>(if a1=0 then (none) else (some (Int.tmod (wrap64 ((wrap64 (bt102.1*256))+bt105.1)) a1,bt105.2.1,bt105.2.2)))) else (if a1=0 then (none) else (some (Int.tmod bt102.1 a1,bt102.2.1,bt102.2.2))))))=some (r1,r2,r3):=h;clear h
 by_cases c3:a1≤1
 ·
  rw [if_pos c3] at H;have c3b0:=decide_eq_true c3;clear c3;simp only [Option.some.injEq,Prod.mk.injEq] at H;obtain ⟨rfl,rfl,rfl⟩:=H;go_enter Tryz.func162,Tryz.ntmps162;go_wp2
  go_ret
  exact ⟨by first|rfl|(simp [Qd,Qe] <;>rfl)|(simp [*,Qd,Qe] <;>rfl),Qb.u HI0,uB HB,uP HK⟩
 ·
  rw [if_neg c3] at H;have c3b0:=decide_eq_false c3;clear c3;obtain ⟨⟨t102,t103,t104⟩,A4,H⟩:=bs H;(try dsimp only at H)
  by_cases c5:a1>200
  ·
   rw [if_pos c5] at H;have c5b0:=decide_eq_true c5;clear c5;obtain ⟨⟨t105,t106,t107⟩,A6,H⟩:=bs H;(try dsimp only at H)
   by_cases c7:a1=0
   ·
    rw [if_pos c7] at H;exact absurd H (by simp)
   ·
    rw [if_neg c7] at H;have c7b0:(a1==0)=false:=beq_eq_false_iff_ne.mpr c7;have c7b1:(a1 !=0)=true:=bne_iff_ne.mpr c7;simp only [Option.some.injEq,Prod.mk.injEq] at H;obtain ⟨rfl,rfl,rfl⟩:=H;go_enter Tryz.func162,Tryz.ntmps162;go_wp2_with (first|(refine gA (some 9) Tryz.func284 #[.pointer (some ⟨g,0,none⟩)] ?_;(with_reducible refine (Qd0.calls g s0_0 s0_1 s0_2 t102 t103 t104 w0 _ (Qb.u HI0) (uB HB) A4.out).mono ?_);rintro e w8 ⟨rfl,hi,hb,hk⟩;refine ⟨_,rfl,?_⟩;replace HK:=Aside0.mk (Qg.trans (uP HK) hk (.inl rfl));replace HB:=Aside0.mk (hb);replace HI0:=Aside0.mk (hi);(try clear hb hk hi))|(refine gA (some 15) Tryz.func284 #[.pointer (some ⟨g,0,none⟩)] ?_;(with_reducible refine (Qd0.calls g s0_0 t103 t104 t105 t106 t107 w0 _ (Qb.u HI0) (uB HB) A6.out).mono ?_);rintro e w9 ⟨rfl,hi,hb,hk⟩;refine ⟨_,rfl,?_⟩;replace HK:=Aside0.mk (Qg.trans (uP HK) hk (.inl rfl));replace HB:=Aside0.mk (hb);replace HI0:=Aside0.mk (hi);(try clear hb hk hi)))
    go_ret
    exact ⟨by first|rfl|(simp [Qd,Qe] <;>rfl)|(simp [*,Qd,Qe] <;>rfl),Qb.u HI0,uB HB,uP HK⟩
  ·
   rw [if_neg c5] at H;have c5b0:=decide_eq_false c5;clear c5
   by_cases c10:a1=0
   ·
    rw [if_pos c10] at H;exact absurd H (by simp)
   ·
    rw [if_neg c10] at H;have c10b0:(a1==0)=false:=beq_eq_false_iff_ne.mpr c10;have c10b1:(a1 !=0)=true:=bne_iff_ne.mpr c10;simp only [Option.some.injEq,Prod.mk.injEq] at H;obtain ⟨rfl,rfl,rfl⟩:=H;go_enter Tryz.func162,Tryz.ntmps162;go_wp2_with (first|(refine gA (some 9) Tryz.func284 #[.pointer (some ⟨g,0,none⟩)] ?_;(with_reducible refine (Qd0.calls g s0_0 s0_1 s0_2 t102 t103 t104 w0 _ (Qb.u HI0) (uB HB) A4.out).mono ?_);rintro e w11 ⟨rfl,hi,hb,hk⟩;refine ⟨_,rfl,?_⟩;replace HK:=Aside0.mk (Qg.trans (uP HK) hk (.inl rfl));replace HB:=Aside0.mk (hb);replace HI0:=Aside0.mk (hi);(try clear hb hk hi)))
    go_ret
    exact ⟨by first|rfl|(simp [Qd,Qe] <;>rfl)|(simp [*,Qd,Qe] <;>rfl),Qb.u HI0,uB HB,uP HK⟩
def Qcv.f (s0_0 : List Int) (s0_1 : Int) (s0_2 : Int) (a1 : Int) : Option (Bool × Int × Int) := (Qz.f s0_0 s0_1 s0_2 a1).bind fun bt108 => (some ((bt108.1 == 0), bt108.2.1, bt108.2.2))
set_option maxHeartbeats 8000000 in
set_option maxRecDepth 100000 in
theorem Qcv.calls (g : Nat) (s0_0 : List Int) (s0_1 : Int) (s0_2 : Int) (a1 : Int) (r1 : Bool) (r2 : Int) (r3 : Int) (w0 w : World) (hI : Qb w0 w g s0_0 s0_1 s0_2) (hB : Below w0.heap.size w0 w) (h : Qcv.f s0_0 s0_1 s0_2 a1 = some (r1, r2, r3)) :
 Calls Tryz.prog 161 #[.pointer (some ⟨g,0,none⟩), .int .i64 a1] w fun e w'=>e= .returned (.bool r1)∧Qb w0 w' g s0_0 r2 r3∧Below w0.heap.size w0 w'∧Qg w w' g none:=by
 have HI0:=Aside0.mk hI;have HK:=Aside0.mk (Qg.refl w g none);have HL:=Aside0.mk hB.size;clear hI;have HW0:=Aside0.mk hB.size;have HB:=Aside0.mk hB;clear hB;have H:((Qz.f s0_0 s0_1 s0_2 a1).bind fun bt108=>(some ((bt108.1==0),bt108.2.1,bt108.2.2)))=some (r1,r2,r3):=h;clear h;obtain ⟨⟨t108,t109,t110⟩,A3,H⟩:=bs H;(try dsimp only at H)
 simp only [Option.some.injEq,Prod.mk.injEq] at H;obtain ⟨rfl,rfl,rfl⟩:=H;go_enter Tryz.func161,Tryz.ntmps161;go_wp2_with (first|(refine gA (some 7) Tryz.func162 #[.pointer (some ⟨g,0,none⟩), .int .i64 a1] ?_;(with_reducible refine (Qz.calls g s0_0 s0_1 s0_2 a1 t108 t109 t110 w0 _ (Qb.u HI0) (uB HB) A3.out).mono ?_);rintro e w4 ⟨rfl,hi,hb,hk⟩;refine ⟨_,rfl,?_⟩;replace HK:=Aside0.mk (Qg.trans (uP HK) hk (.inl rfl));replace HB:=Aside0.mk (hb);replace HI0:=Aside0.mk (hi);(try clear hb hk hi)))
 go_ret
 exact ⟨by first|rfl|(simp [Qd,Qe] <;>rfl)|(simp [*,Qd,Qe] <;>rfl),Qb.u HI0,uB HB,uP HK⟩
end Go.Proofs.YtkgngggppcmpfaaGreat.L
end
section
namespace Go.Proofs.YtkgngggppcmpfaaGreat.L
open Go.RowKit Go.Proofs.YtkgngggppcmpfaaGreatW.PrintWords Go.Proofs.YtkgngggppcmpfaaGreatW.PrintLast Go.Proofs.YtkgngggppcmpfaaGreatW.PrintMore
attribute [local go_sem] Qt Qv Q2 Q3 Qm Qn Qu Qw
set_option linter.unusedVariables false
set_option linter.unusedSimpArgs false
def Qde.f (a0 : Int) (a1 : Int) (a2 : Int) : Option (Bool) := if a0 ≥ a1 then (some (decide (a0 ≤ a2))) else (some false)
set_option maxHeartbeats 8000000 in
set_option maxRecDepth 100000 in
theorem Qde.calls (a0 : Int) (a1 : Int) (a2 : Int) (r : Bool) (w : World) (h : Qde.f a0 a1 a2 = some r) :
 Calls Tryz.prog 192 #[.int .i64 a0, .int .i64 a1, .int .i64 a2] w fun e w'=>e= .returned (.bool r)∧Drawn0 w w':=by
 have H:(if a0 ≥ a1 then (some (decide (a0≤a2))) else (some false))=some r:=h;clear h
 by_cases c4:a0 ≥ a1
 ·
  rw [if_pos c4] at H;have c4b0:=decide_eq_true c4;clear c4;obtain rfl:=Option.some.inj H;go_enter Tryz.func192,Tryz.ntmps192;go_wp2
  go_ret
  exact ⟨by first|rfl|(simp;done)|(simp [*];done),by repeat (first|exact Drawn0.refl _|apply Drawn0.step)⟩
 ·
  rw [if_neg c4] at H;have c4b0:=decide_eq_false c4;clear c4;obtain rfl:=Option.some.inj H;go_enter Tryz.func192,Tryz.ntmps192;go_wp2
  go_ret
  exact ⟨by first|rfl|(simp;done)|(simp [*];done),by repeat (first|exact Drawn0.refl _|apply Drawn0.step)⟩
end Go.Proofs.YtkgngggppcmpfaaGreat.L
end
section
namespace Go.Proofs.YtkgngggppcmpfaaGreat.L
open Go.RowKit Go.Proofs.YtkgngggppcmpfaaGreatW.PrintWords Go.Proofs.YtkgngggppcmpfaaGreatW.PrintLast Go.Proofs.YtkgngggppcmpfaaGreatW.PrintMore Go.Proofs.YtkgngggppcmpfaaGreat.X
attribute [local go_sem] Qt Qv Q2 Q3 Qm Qn Qu Qw
set_option linter.unusedVariables false
set_option linter.unusedSimpArgs false
mutual
def Qbb.l0 : Nat → List Int → Int → Int → List Int → Option (Bool)
 |0,_,_,_,_=>none
 |k+1,x14,x15,x16,x250000=>if x16<x15 then (if 0≤x16 then (if x16<(x14.length:Int) then ((Qde.f (rd x14 x16) 0 (wrap64 ((shl .i64 1 x16) - 1))).bind fun t252=>(if t252=true then (Qbb.l1 k x16 (rd x14 x16) 0 x14 x15 x16 x250000) else (some false))) else (none)) else (none)) else (some true)
def Qbb.l1 : Nat → Int → Int → Int → List Int → Int → Int → List Int → Option (Bool)
 |0,_,_,_,_,_,_,_=>none
 |k+1,x4,x5,x6,x14,x15,x16,x250000=>if x6<x4 then (if 0≤x6 then (if (Int.tmod (shr .i64 x5 x6) 2)=1 then (if x6<(x250000.length:Int) then (if (Go.bits .andNot .i64 (rd x250000 x6) x5)=0 then (Qbb.l1 k x4 x5 (wrap64 (x6+1)) x14 x15 x16 x250000) else (some false)) else (none)) else (Qbb.l1 k x4 x5 (wrap64 (x6+1)) x14 x15 x16 x250000)) else (none)) else (Qbb.l0 k x14 x15 (wrap64 (x16+1)) x250000)
end
def Qbb.f (k : Nat) (l0_0 : List Int) : Option (Bool) := (Qde.f (l0_0.length : Int) 1 10).bind fun t250 => (if t250 = true then (Qbb.l0 k l0_0 (l0_0.length : Int) 0 l0_0) else (some false))
theorem Qbb.mono_l : ∀ k, (∀ y0 y1 y2 y3, LeO (Qbb.l0 k y0 y1 y2 y3) (Qbb.l0 (k + 1) y0 y1 y2 y3)) ∧ (∀ y0 y1 y2 y3 y4 y5 y6, LeO (Qbb.l1 k y0 y1 y2 y3 y4 y5 y6) (Qbb.l1 (k + 1) y0 y1 y2 y3 y4 y5 y6))
 |0=>⟨fun _ _ _ _ r h=>by simp [Qbb.l0] at h,fun _ _ _ _ _ _ _ r h=>by simp [Qbb.l1] at h⟩
 |k+1=>by
  obtain ⟨ih0,ih1⟩:=Qbb.mono_l k;refine ⟨?_,?_⟩
  all_goals
   intros
   first|unfold Qbb.l0|unfold Qbb.l1
   repeat' (with_reducible first|apply ih0|apply ih1|exact LeO.refl _|exact LeO.none _|refine LeO.ite ?_ ?_|refine LeO.bind ?_ (fun _=> ?_))
theorem Qbb.mono : ∀ a0 k, LeO (Qbb.f k a0) (Qbb.f (k + 1) a0) := by
 intro a0 k;obtain ⟨ih0,ih1⟩:=Qbb.mono_l k;unfold Qbb.f
 repeat' (with_reducible first|apply ih0|apply ih1|exact LeO.refl _|exact LeO.none _|refine LeO.ite ?_ ?_|refine LeO.bind ?_ (fun _=> ?_))
set_option maxHeartbeats 8000000 in
set_option maxRecDepth 100000 in
theorem Qbb.calls (k : Nat) (A0_0 : Option Addr) (c0_0 : Nat) (l0_0 : List Int) (r : Bool) (w : World) (hr0_0 : Kd.C (Kd.int .i64) w A0_0 l0_0.length l0_0) (hc0_0 : l0_0.length ≤ c0_0) (h : Qbb.f k l0_0 = some r) :
 Calls Tryz.prog 183 #[.agg #[.slice A0_0 l0_0.length c0_0]] w fun e w'=>e= .returned (.bool r)∧Below w.heap.size w w':=by
 have hu26:=Tryz.underlying26;have HR0_0:=Aside0.mk hr0_0;have HC0_0:=Aside0.mk hc0_0;clear hr0_0 hc0_0;have HB:=Aside0.mk (Below.refl w.heap.size w);have H:((Qde.f (l0_0.length:Int) 1 10).bind fun t250=>(if t250=true then (Qbb.l0 k l0_0 (l0_0.length:Int) 0 l0_0) else (some false)))=some r:=h;clear h;obtain ⟨t250,A2,H⟩:=bs H;(try dsimp only at H)
 by_cases c3:t250=true
 ·
  subst c3;rw [if_pos rfl] at H;have H':=Aside0.mk H;clear H;go_enter Tryz.func183,Tryz.ntmps183;go_wp2_with (first|(refine bE (N:=1) (cs:= #[.slice A0_0 l0_0.length c0_0]) (t:=26) ?_;intro gb249 hg w4 hbox hb;have BK249:=Aside0.mk (hbox);have GW249:=Aside0.mk ((gV hg (uB HB)));have GE249:=GW249;replace HB:=Aside0.mk (Qa (uB HB) hb);clear hb hbox hg;have hcz5_0:=bC BK249;have hfz5_0:=Qf BK249.out 0)|(refine gA (some 11) Tryz.func192 #[.int .i64 (l0_0.length:Int), .int .i64 1, .int .i64 10] ?_;(with_reducible refine (Qde.calls (l0_0.length:Int) 1 10 true _ A2.out).mono ?_);rintro e w' ⟨rfl,⟨nd,rfl⟩⟩;refine ⟨_,rfl,?_⟩))
  go_loopg [16] k (fun kq v16 w'=> ∃ (x16_1:Int),v16= .int .i64 x16_1∧Aside0 (Qbb.l0 kq l0_0 (l0_0.length:Int) x16_1 l0_0=some r)∧Aside0 (kq≤k)∧Aside0 (w'.heap[gb249]? =some (.cells #[(.slice A0_0 l0_0.length c0_0)] 26 (0,0)))∧Aside0 (Below w.heap.size w w'))
  case atStart=>exact ⟨(0),(by first|rfl|(simp;done)|(simp [*];done)),H',⟨Nat.le_refl _⟩,⟨uK BK249⟩,⟨uB HB⟩⟩
  case round=>
   clear H'
   try clear c1
   try clear p2
   try clear c3
   try clear hcz5_0
   try clear hfz5_0
   obtain ⟨x16_1,rfl,HA,HK1,BK249,HB⟩:=hrel;cases gk with
   |zero=>exact absurd HA.out (by simp [Qbb.l0])
   |succ k1=>
    have H:=HA.out;clear HA;simp only [Qbb.l0] at H
    by_cases c6:x16_1<(l0_0.length:Int)
    ·
     rw [if_pos c6] at H;have c6b0:=decide_eq_true c6;clear c6
     by_cases c7:0≤x16_1
     ·
      rw [if_pos c7] at H;have c7b0:=decide_eq_true c7;clear c7
      by_cases c8:x16_1<(l0_0.length:Int)
      ·
       rw [if_pos c8] at H;have c8b0:=decide_eq_true c8;clear c8;have c9b0:=eq_true (of_decide_eq_true (by first|(with_reducible assumption)|assumption):0≤x16_1);obtain ⟨ji10,hji10⟩: ∃ j_:Int,(shl .i64 1 x16_1)=j_:=⟨_,rfl⟩
       replace H:((Qde.f (rd l0_0 x16_1) 0 (wrap64 ((ji10) - 1))).bind fun t252=>(if t252=true then (Qbb.l1 k1 x16_1 (rd l0_0 x16_1) 0 l0_0 (l0_0.length:Int) x16_1 l0_0) else (some false)))=some r:=by first|(rw [hji10] at H;exact H)|(simp only [hji10] at H ⊢;exact H)
       have hji10_:(IntKind.i64.wrap (1*2 ^ min x16_1.toNat 64))=ji10:=hji10;have hji10z:x16_1≤64→(IntKind.i64.wrap (1*2 ^ x16_1.toNat))=ji10:=Qd1 hji10;have hji10u:(IntKind.i64.wrap (2 ^ min x16_1.toNat 64))=ji10:=by have h_:=hji10_;rw [Int.one_mul] at h_;exact h_
       have hji10v:x16_1≤64→(IntKind.i64.wrap (2 ^ x16_1.toNat))=ji10:=fun hle_=>by have h_:=hji10z hle_;rw [Int.one_mul] at h_;exact h_
       have hji10y:(wrap64 (1*2 ^ min x16_1.toNat 64))=ji10:=(Qcu _).symm.trans hji10_;have hji10x:x16_1≤64→(wrap64 (1*2 ^ x16_1.toNat))=ji10:=fun h_=>(Qcu _).symm.trans (hji10z h_)
       obtain ⟨t252,A11,H⟩:=bs H;(try dsimp only at H)
       by_cases c12:t252=true
       ·
        subst c12;rw [if_pos rfl] at H;have H':=Aside0.mk H;clear H;have p251:0≤(x16_1:Int):=of_decide_eq_true (by first|(with_reducible assumption)|assumption);have q251:x16_1<(l0_0.length:Int):=of_decide_eq_true (by first|(with_reducible assumption)|assumption);obtain ⟨ad251,e251,hx251_0⟩:=Kd.at_int HR0_0.out x16_1 p251 q251;cases e251;replace hx251_0:=(HB.out.cell (World.block_lt_of_cell? w _ hx251_0)).trans hx251_0;replace p251:=eq_true p251;replace q251:=eq_true q251;go_wp2_with (first|((with_reducible refine Qdp (f:=192) rfl ?_);refine Qeu (some 25) rfl rfl Tryz.func192 (by kernel_rfl) rfl #[.int .i64 (rd l0_0 x16_1), .int .i64 0, .int .i64 (wrap64 ((ji10) - 1))] rfl (by (try simp only [List.map_toArray,List.map_cons,List.map_nil]);first|done|(simp only [hji10];rfl)|rfl|(simp only [List.length_drop,List.length_take];rfl)) ?_;(with_reducible refine (Qde.calls (rd l0_0 x16_1) 0 (wrap64 ((ji10) - 1)) true _ A11.out).mono ?_);rintro e w' ⟨rfl,⟨nd,rfl⟩⟩;refine ⟨_,rfl,?_⟩))
        go_loopg [6] k1 (fun kq v6 w'=> ∃ (x6_2:Int),v6= .int .i64 x6_2∧Aside0 (Qbb.l1 kq x16_1 (rd l0_0 x16_1) x6_2 l0_0 (l0_0.length:Int) x16_1 l0_0=some r)∧Aside0 (kq≤k1)∧Aside0 (w'.heap[gb249]? =some (.cells #[(.slice (some ad251) l0_0.length c0_0)] 26 (0,0)))∧Aside0 (Below w.heap.size w w'))
        case atStart=>exact ⟨(0),(by first|rfl|(simp;done)|(simp [*];done)),H',⟨Nat.le_refl _⟩,⟨uK BK249⟩,⟨uB HB⟩⟩
        case round=>
         clear H'
         try clear c1
         try clear p2
         try clear q2
         try clear hx2
         try clear c3
         try clear c6
         try clear c6b0
         try clear p6
         try clear c7
         try clear c7b0
         try clear c8
         try clear c8b0
         try clear c9
         try clear c9b0
         try clear c12
         try clear hcz5_0
         try clear hfz5_0
         try clear hx251_0
         try clear p2
         try clear p251
         try clear q251
         obtain ⟨x6_2,rfl,HA,HK2,BK249,HB⟩:=hrel;cases gk with
         |zero=>exact absurd HA.out (by simp [Qbb.l1])
         |succ k2=>
          have H:=HA.out;clear HA;simp only [Qbb.l1] at H
          by_cases c13:x6_2<x16_1
          ·
           rw [if_pos c13] at H;have c13b0:=decide_eq_true c13;clear c13
           by_cases c14:0≤x6_2
           ·
            rw [if_pos c14] at H;have c14b0:=eq_true c14;have c14b1:=decide_eq_true c14;clear c14;obtain ⟨ji15,hji15⟩: ∃ j_:Int,(shr .i64 (rd l0_0 x16_1) x6_2)=j_:=⟨_,rfl⟩
            replace H:(if (Int.tmod (ji15) 2)=1 then (if x6_2<(l0_0.length:Int) then (if (Go.bits .andNot .i64 (rd l0_0 x6_2) (rd l0_0 x16_1))=0 then (Qbb.l1 k2 x16_1 (rd l0_0 x16_1) (wrap64 (x6_2+1)) l0_0 (l0_0.length:Int) x16_1 l0_0) else (some false)) else (none)) else (Qbb.l1 k2 x16_1 (rd l0_0 x16_1) (wrap64 (x6_2+1)) l0_0 (l0_0.length:Int) x16_1 l0_0))=some r:=by first|(rw [hji15] at H;exact H)|(simp only [hji15] at H ⊢;exact H)
            have hji15_:((rd l0_0 x16_1) / 2 ^ min x6_2.toNat 64)=ji15:=hji15;have hji15z:x6_2≤64→((rd l0_0 x16_1) / 2 ^ x6_2.toNat)=ji15:=Qjy hji15
            by_cases c16:(Int.tmod (ji15) 2)=1
            ·
             rw [if_pos c16] at H;have c16b0:((Int.tmod (ji15) 2)==1)=true:=beq_iff_eq.mpr c16;have c16b1:((Int.tmod (ji15) 2) !=1)=false:=bne_eq_false_iff_eq.mpr c16;clear c16
             by_cases c17:x6_2<(l0_0.length:Int)
             ·
              rw [if_pos c17] at H;have c17b0:=decide_eq_true c17;clear c17
              by_cases c18:(Go.bits .andNot .i64 (rd l0_0 x6_2) (rd l0_0 x16_1))=0
              ·
               rw [if_pos c18] at H;have c18b0:((Go.bits .andNot .i64 (rd l0_0 x6_2) (rd l0_0 x16_1))==0)=true:=beq_iff_eq.mpr c18;have c18b1:((Go.bits .andNot .i64 (rd l0_0 x6_2) (rd l0_0 x16_1)) !=0)=false:=bne_eq_false_iff_eq.mpr c18;clear c18;have H':=Aside0.mk H;clear H;have hcz19_0:=bC BK249;have hfz19_0:=Qf BK249.out 0;have p253:0≤(x6_2:Int):=of_decide_eq_true (by first|(with_reducible assumption)|assumption);have q253:x6_2<(l0_0.length:Int):=of_decide_eq_true (by first|(with_reducible assumption)|assumption);obtain ⟨ad253,e253,hx253_0⟩:=Kd.at_int HR0_0.out x6_2 p253 q253;obtain rfl:ad251=ad253:=(by injection e253)
               replace hx253_0:=(HB.out.cell (World.block_lt_of_cell? w _ hx253_0)).trans hx253_0;replace p253:=eq_true p253;replace q253:=eq_true q253;go_wp2;go_roundg k2
               case measure=>have:=HK1.out;have:=HK2.out;omega
               case rel=>exact ⟨(wrap64 (x6_2+1)),(by first|rfl|(simp;done)|(simp [*];done)),H',⟨by have:=HK1.out;have:=HK2.out;omega⟩,⟨uK BK249⟩,⟨uB HB⟩⟩
              ·
               rw [if_neg c18] at H;have c18b0:((Go.bits .andNot .i64 (rd l0_0 x6_2) (rd l0_0 x16_1))==0)=false:=beq_eq_false_iff_ne.mpr c18;have c18b1:((Go.bits .andNot .i64 (rd l0_0 x6_2) (rd l0_0 x16_1)) !=0)=true:=bne_iff_ne.mpr c18;obtain rfl:=Option.some.inj H;have hcz20_0:=bC BK249;have hfz20_0:=Qf BK249.out 0;have p253:0≤(x6_2:Int):=of_decide_eq_true (by first|(with_reducible assumption)|assumption);have q253:x6_2<(l0_0.length:Int):=of_decide_eq_true (by first|(with_reducible assumption)|assumption);obtain ⟨ad253,e253,hx253_0⟩:=Kd.at_int HR0_0.out x6_2 p253 q253;obtain rfl:ad251=ad253:=(by injection e253)
               replace hx253_0:=(HB.out.cell (World.block_lt_of_cell? w _ hx253_0)).trans hx253_0;replace p253:=eq_true p253;replace q253:=eq_true q253;go_wp2
               go_ret
               exact ⟨by first|rfl|(simp [Qd,Qe] <;>rfl)|(simp only [←hji10,←hji15];first|rfl|(simp [Qd,Qe] <;>rfl))|(simp [*,Qd,Qe] <;>rfl),uB HB⟩
             ·
              rw [if_neg c17] at H;exact absurd H (by simp)
            ·
             rw [if_neg c16] at H;have c16b0:((Int.tmod (ji15) 2)==1)=false:=beq_eq_false_iff_ne.mpr c16;have c16b1:((Int.tmod (ji15) 2) !=1)=true:=bne_iff_ne.mpr c16;have H':=Aside0.mk H;clear H;go_wp2;go_roundg k2
             case measure=>have:=HK1.out;have:=HK2.out;omega
             case rel=>exact ⟨(wrap64 (x6_2+1)),(by first|rfl|(simp;done)|(simp [*];done)),H',⟨by have:=HK1.out;have:=HK2.out;omega⟩,⟨uK BK249⟩,⟨uB HB⟩⟩
           ·
            rw [if_neg c14] at H;exact absurd H (by simp)
          ·
           rw [if_neg c13] at H;have c13b0:=decide_eq_false c13;clear c13;have H':=Aside0.mk H;clear H;go_wp2;go_roundg k2
           case measure=>have:=HK1.out;have:=HK2.out;omega
           case rel=>exact ⟨(wrap64 (x16_1+1)),(by first|rfl|(simp;done)|(simp [*];done)),H',⟨by have:=HK1.out;have:=HK2.out;omega⟩,⟨uK BK249⟩,⟨uB HB⟩⟩
       ·
        replace c12:=Bool.eq_false_iff.mpr c12;subst c12;rw [if_neg (show ¬ (false=true) by decide)] at H;obtain rfl:=Option.some.inj H;have p251:0≤(x16_1:Int):=of_decide_eq_true (by first|(with_reducible assumption)|assumption);have q251:x16_1<(l0_0.length:Int):=of_decide_eq_true (by first|(with_reducible assumption)|assumption);obtain ⟨ad251,e251,hx251_0⟩:=Kd.at_int HR0_0.out x16_1 p251 q251;cases e251;replace hx251_0:=(HB.out.cell (World.block_lt_of_cell? w _ hx251_0)).trans hx251_0;replace p251:=eq_true p251;replace q251:=eq_true q251;go_wp2_with (first|((with_reducible refine Qdp (f:=192) rfl ?_);refine Qeu (some 25) rfl rfl Tryz.func192 (by kernel_rfl) rfl #[.int .i64 (rd l0_0 x16_1), .int .i64 0, .int .i64 (wrap64 ((ji10) - 1))] rfl (by (try simp only [List.map_toArray,List.map_cons,List.map_nil]);first|done|(simp only [hji10];rfl)|rfl|(simp only [List.length_drop,List.length_take];rfl)) ?_;(with_reducible refine (Qde.calls (rd l0_0 x16_1) 0 (wrap64 ((ji10) - 1)) false _ A11.out).mono ?_);rintro e w' ⟨rfl,⟨nd,rfl⟩⟩;refine ⟨_,rfl,?_⟩))
        go_ret
        exact ⟨by first|rfl|(simp [Qd,Qe] <;>rfl)|(simp only [←hji10];first|rfl|(simp [Qd,Qe] <;>rfl))|(simp [*,Qd,Qe] <;>rfl),uB HB⟩
      ·
       rw [if_neg c8] at H;exact absurd H (by simp)
     ·
      rw [if_neg c7] at H;exact absurd H (by simp)
    ·
     rw [if_neg c6] at H;have c6b0:=decide_eq_false c6;clear c6;obtain rfl:=Option.some.inj H;go_wp2
     go_ret
     exact ⟨by first|rfl|(simp [Qd,Qe] <;>rfl)|(simp [*,Qd,Qe] <;>rfl),uB HB⟩
 ·
  replace c3:=Bool.eq_false_iff.mpr c3;subst c3;rw [if_neg (show ¬ (false=true) by decide)] at H;obtain rfl:=Option.some.inj H;go_enter Tryz.func183,Tryz.ntmps183;go_wp2_with (first|(refine bE (N:=1) (cs:= #[.slice A0_0 l0_0.length c0_0]) (t:=26) ?_;intro gb249 hg w21 hbox hb;have BK249:=Aside0.mk (hbox);have GW249:=Aside0.mk ((gV hg (uB HB)));have GE249:=GW249;replace HB:=Aside0.mk (Qa (uB HB) hb);clear hb hbox hg;have hcz22_0:=bC BK249;have hfz22_0:=Qf BK249.out 0)|(refine gA (some 11) Tryz.func192 #[.int .i64 (l0_0.length:Int), .int .i64 1, .int .i64 10] ?_;(with_reducible refine (Qde.calls (l0_0.length:Int) 1 10 false _ A2.out).mono ?_);rintro e w' ⟨rfl,⟨nd,rfl⟩⟩;refine ⟨_,rfl,?_⟩))
  go_ret
  exact ⟨by first|rfl|(simp [Qd,Qe] <;>rfl)|(simp [*,Qd,Qe] <;>rfl),uB HB⟩
def Qx.m1 (xs : List (List Int)) (x : Nat) (s : List Int) : Nat → Int → List Int → Option (List Int)
 |0,y,F=>if y<(xs.length:Int) then none else some F
 |n+1,y,F=>if y<(xs.length:Int) then (if 0≤y∧1<s.length∧1<(xs.getD y.toNat []).length then Qx.m1 xs x s n (wrap64 (y+1)) (if (x:Int)≠y∧rd s 0≤rd (xs.getD y.toNat []) 0∧rd (xs.getD y.toNat []) 1≤rd s 1 then F.set x (Go.bits .or .i64 (rd F x) (shl .i64 1 y)) else F) else none) else some F
def Qx.m0 (xs : List (List Int)) : Nat → Int → List Int → Option (List Int)
 |0,x,F=>if x<(xs.length:Int) then none else some F
 |n+1,x,F=>if x<(xs.length:Int) then (if 0≤x then (Qx.m1 xs x.toNat (xs.getD x.toNat []) xs.length 0 F).bind fun F=>Qx.m0 xs n (wrap64 (x+1)) F else none) else some F
def Qx.p2 (xs : List (List Int)) : Option (List Int × Bool) := if xs.length ≤ 35184372088832 then (Qx.m0 xs xs.length 0 (List.replicate xs.length 0)).map (·, true) else none
mutual
def Qx.l0 : Nat → Int → Bool → List (List Int) → Int → Option (List Int × Bool)
 |0,_,_,_,_=>none
 |k+1,x0,x3,x4,x5=>if x5≤x0 then (Qx.l1 k x0 x3 x4 x5 0) else Qx.p2 x4
def Qx.l1 : Nat → Int → Bool → List (List Int) → Int → Int → Option (List Int × Bool)
 |0,_,_,_,_,_=>none
 |k+1,x0,x3,x4,x5,x6=>if (wrap64 (x6+x5))≤x0 then (if x4.length<5864062014805 then (Qx.l1 k x0 x3 (x4++ [(([x6,wrap64 (x6+x5)] :List Int))]) x5 (wrap64 (x6+1))) else (none)) else (Qx.l0 k x0 x3 x4 (wrap64 (x5+1)))
end
def Qx.f (k : Nat) (a0 : Int) : Option (List Int × Bool) := (Qde.f a0 1 4).bind fun t156 => (if t156 = true then (Qx.l0 k a0 false ([] : List (List Int)) 1) else (some (([] : List Int), false)))
theorem Qx.mono_l : ∀ k, (∀ y0 y1 y2 y3, LeO (Qx.l0 k y0 y1 y2 y3) (Qx.l0 (k + 1) y0 y1 y2 y3)) ∧ (∀ y0 y1 y2 y3 y4, LeO (Qx.l1 k y0 y1 y2 y3 y4) (Qx.l1 (k + 1) y0 y1 y2 y3 y4))
 |0=>⟨fun _ _ _ _ r h=>by simp [Qx.l0] at h,fun _ _ _ _ _ r h=>by simp [Qx.l1] at h⟩
 |k+1=>by
  obtain ⟨ih0,ih1⟩:=Qx.mono_l k;refine ⟨?_,?_⟩
  all_goals
   intros
   first|unfold Qx.l0|unfold Qx.l1
   repeat' (with_reducible first|apply ih0|apply ih1|exact LeO.refl _|exact LeO.none _|refine LeO.ite ?_ ?_|refine LeO.bind ?_ (fun _=> ?_))
theorem Qx.mono : ∀ a0 k, LeO (Qx.f k a0) (Qx.f (k + 1) a0) := by
 intro a0 k;obtain ⟨ih0,ih1⟩:=Qx.mono_l k;unfold Qx.f
 repeat' (with_reducible first|apply ih0|apply ih1|exact LeO.refl _|exact LeO.none _|refine LeO.ite ?_ ?_|refine LeO.bind ?_ (fun _=> ?_))
theorem Qx.lit_R {α : Type} (d : Kd α) {W : World} (base e g : Nat) {xs : List α} {inner : List Value} {ok okp : Nat → Prop} (hrep : Reps (d.M W base okp) d.sz xs inner) (hok : ∀ k, okp k → ok k) (hg : g = W.heap.size) (hfresh : ok g) (hbase : base ≤ g) (hm : xs.length ≤ 9223372036854775807) :
 d.R e (W.alloc (.cells inner.toArray e)) base ok (.slice (some ⟨g,0,none⟩) xs.length xs.length) xs:=by
 subst hg;refine ⟨fun k hk=> ?_,inner,?_,?_⟩
 ·
  have:W.heap.size=k:=by simpa [Value.ownBlock] using hk
  subst this;exact hfresh
 ·
  have h2:=World.ownsRow_lit (base:=base) (e:=e) (size:=d.sz) W inner.toArray xs.length hbase (by simpa [maxLen] using hm) (by simpa using hrep.1)
  simpa using h2
 ·
  refine hrep.imp_ (fun p c hp=>d.M_mono (fun k hk=>⟨hok k hk.1,fun he=> ?_⟩) (Kd.M_below (d.M_bound hp) (Qo (Below.refl _ _) _)));have h3:k=W.heap.size:=by simpa [Value.ownBlock] using he
  have:=hk.2.2.1;omega
theorem Qx.made_R (W : World) (base g m : Nat) (hg : g = W.heap.size) (hbase : base ≤ g) (hm : m ≤ 35184372088832) :
 Kd.R (Kd.int .i64) 3 (W.alloc (.cells (madeCells #[.int .i64 0] m) 3)) base (fun _=>True) (.slice (some ⟨g,0,none⟩) m m) (List.replicate m 0):=by
 have hr:Reps ((Kd.int .i64).M W base (fun _=>True)) 1 (List.replicate m (0:Int)) (madeCells (Value.int .i64 0).cells (m*1)).toList:=Kd.reps_made (z:= .int .i64 0) rfl (by decide) (by constructor<;>first|rfl|trivial) m;have h:=Qx.lit_R (Kd.int .i64) base 3 g (ok:=fun _=>True) (okp:=fun _=>False) hr (fun _ h=>h.elim) hg trivial hbase (by rw [List.length_replicate];omega);rw [List.length_replicate,Nat.mul_one] at h;exact h
set_option maxHeartbeats 8000000 in
set_option maxRecDepth 100000 in
theorem Qx.calls (k : Nat) (a0 : Int) (r1 : List Int) (r2 : Bool) (w : World) (h : Qx.f k a0 = some (r1, r2)) :
 Calls Tryz.prog 268 #[.int .i64 a0] w fun e w'=> ∃ v0_:Value,e= .returned (.tuple #[.agg #[v0_], .bool r2])∧Kd.R (Kd.int .i64) 3 w' w.heap.size (fun _=>True) v0_ r1∧Below w.heap.size w w':=by
 have hu:=Tryz.underlying26;have HB:=Aside0.mk (Below.refl w.heap.size w);have H:((Qde.f a0 1 4).bind fun t156=>(if t156=true then (Qx.l0 k a0 false ([] :List (List Int)) 1) else (some (([] :List Int),false))))=some (r1,r2):=h;clear h;obtain ⟨t156,A2,H⟩:=bs H;(try dsimp only at H)
 by_cases c3:t156=true
 ·
  subst c3;rw [if_pos rfl] at H;have H':=Aside0.mk H;clear H;go_enter Tryz.func268,Tryz.ntmps268;go_wp2_with (first|(refine bE (N:=2) (cs:= #[.slice none 0 0]) (t:=26) ?_;intro gb155 hg w4 hbox hb;have BK155:=Aside0.mk (hbox);have GW155:=Aside0.mk ((gV hg (uB HB)));have GE155:=GW155;replace HB:=Aside0.mk (Qa (uB HB) hb);clear hb hbox hg)|(refine gA (some 13) Tryz.func192 #[.int .i64 a0, .int .i64 1, .int .i64 4] ?_;(with_reducible refine (Qde.calls a0 1 4 true _ A2.out).mono ?_);rintro e w' ⟨rfl,⟨nd,rfl⟩⟩;refine ⟨_,rfl,?_⟩))
  go_loopg [4,5] k (fun kq v4 v5 w'=> ∃ (x4_1:List (List Int)) (x5_1:Int),v5= .int .i64 x5_1∧Aside0 (Qx.l0 kq a0 false x4_1 x5_1=some (r1,r2))∧Aside0 (kq≤k)∧Aside0 (Kd.S (Kd.slice 3 (Kd.int .i64)) 24 w' w.heap.size (fun _=>True) v4 x4_1)∧Aside0 (w'.heap[gb155]? =some (.cells #[(.slice none 0 0)] 26 (0,0)))∧Aside0 (Below w.heap.size w w'))
  case atStart=>exact ⟨(([] :List (List Int))),(1),(by first|rfl|(simp;done)|(simp [*];done)),H',⟨Nat.le_refl _⟩,⟨by first|exact Kd.S_nil _ _ _ _ _|exact Kd.N_nil _ _ _ _ _|exact Kd.V_nil _ _ _ _ _|exact Kd.Q_nil _ _ _ _ _|exact Kd.R_nil _ _ _ _ _⟩,⟨uK BK155⟩,⟨uB HB⟩⟩
  case round=>
   clear H'
   try clear c1
   try clear p2
   try clear c3
   obtain ⟨x4_1,x5_1,rfl,HA,HK1,HO_4,BK155,HB⟩:=hrel;cases gk with
   |zero=>exact absurd HA.out (by simp [Qx.l0])
   |succ k1=>
    have H:=HA.out;clear HA;simp only [Qx.l0] at H
    by_cases c5:x5_1≤a0
    ·
     rw [if_pos c5] at H;have c5b0:=decide_eq_true c5;clear c5;have H':=Aside0.mk H;clear H;go_wp2
     go_loopg [4,6] k1 (fun kq v4 v6 w'=> ∃ (x4_2:List (List Int)) (x6_2:Int),v6= .int .i64 x6_2∧Aside0 (Qx.l1 kq a0 false x4_2 x5_1 x6_2=some (r1,r2))∧Aside0 (kq≤k1)∧Aside0 (Kd.S (Kd.slice 3 (Kd.int .i64)) 24 w' w.heap.size (fun _=>True) v4 x4_2)∧Aside0 (w'.heap[gb155]? =some (.cells #[(.slice none 0 0)] 26 (0,0)))∧Aside0 (Below w.heap.size w w'))
     case atStart=>exact ⟨(x4_1),(0),(by first|rfl|(simp;done)|(simp [*];done)),H',⟨Nat.le_refl _⟩,⟨uS HO_4⟩,⟨uK BK155⟩,⟨uB HB⟩⟩
     case round=>
      clear H'
      try clear c1
      try clear p2
      try clear c3
      try clear c5
      try clear c5b0
      try clear p2
      obtain ⟨x4_2,x6_2,rfl,HA,HK2,HO_4,BK155,HB⟩:=hrel;cases gk with
      |zero=>exact absurd HA.out (by simp [Qx.l1])
      |succ k2=>
       have H:=HA.out;clear HA;simp only [Qx.l1] at H
       by_cases c6:(wrap64 (x6_2+x5_1))≤a0
       ·
        rw [if_pos c6] at H;have c6b0:=decide_eq_true c6;clear c6;obtain ⟨y157,hy157⟩: ∃ y_:List Int,y_=(([x6_2,wrap64 (x6_2+x5_1)] :List Int)):=⟨_,rfl⟩
        replace H:(if x4_2.length<5864062014805 then (Qx.l1 k2 a0 false (x4_2++ [y157]) x5_1 (wrap64 (x6_2+1))) else (none))=some (r1,r2):=by first|(rw [hy157];with_reducible exact H)|(have H2_:=(Option.bind_some _ _).symm.trans H;rw [hy157];with_reducible exact H2_)|(have H2_:=(Option.bind_some _ _).symm.trans H;with_reducible exact H2_)|with_reducible exact H|(rw [hy157];exact H)|exact H
        have Ny157:=Aside0.mk hy157;clear hy157
        by_cases c7:x4_2.length<5864062014805
        ·
         rw [if_pos c7] at H;have LMc7:=Aside0.mk c7;clear c7;obtain ⟨y160,hy160⟩: ∃ y_:List (List Int),y_=(x4_2++ [y157]):=⟨_,rfl⟩
         replace H:(Qx.l1 k2 a0 false y160 x5_1 (wrap64 (x6_2+1)))=some (r1,r2):=by first|(rw [hy160];with_reducible exact H)|(have H2_:=(Option.bind_some _ _).symm.trans H;rw [hy160];with_reducible exact H2_)|(have H2_:=(Option.bind_some _ _).symm.trans H;with_reducible exact H2_)|with_reducible exact H|(rw [hy160];exact H)|exact H
         have Ny160:=Aside0.mk hy160;clear hy160;have H':=Aside0.mk H;clear H;go_wp2_with (first|((with_reducible refine Qc0 (N:=33) rfl ?_);refine Kd.R_lit (Kd.int .i64) _ 3 ?hg (N:=33) ?hd (xs:=([x6_2,wrap64 (x6_2+x5_1)] :List Int)) (inner:= [.int .i64 x6_2, .int .i64 (wrap64 (x6_2+x5_1))]) (ok:=fun _=>True) (okp:=fun _=>True) ?hr ?hp (fun _ hk=>hk) trivial (Below.refl _ _) (Nat.le_refl _) (by simp) ?_;(case hd=>rfl);(case hg=>rfl);(case hr=>first|(go_simp;done)|(go_simp;rfl));(case hp=>exact (Reps.one (show Kd.M (Kd.int .i64) _ _ _ x6_2 [.int .i64 x6_2] from rfl) (Reps.one (show Kd.M (Kd.int .i64) _ _ _ (wrap64 (x6_2+x5_1)) [.int .i64 (wrap64 (x6_2+x5_1))] from rfl) (Reps.none _ _))));intro v158 w8 ho9 hb hg_ hnew_;clear hg_ hnew_;(first|rw [←Ny157.out] at ho9|(simp only [Int.reduceToNat] at ho9;rw [←Ny157.out] at ho9));replace HO_4:=Aside0.mk (Kd.S_elder' (uS HO_4) (Kd.R_base ho9) hb);have HO159:=Aside0.mk (Kd.R_lower ho9 (Qp (uB HB)));replace BK155:=Aside0.mk (Qc (uK BK155) hb);replace HB:=Aside0.mk (Qa (uB HB) hb);clear hb ho9;obtain ⟨Ao11,co11,eo11⟩:=Kd.R_slice HO159.out;subst eo11)|((with_reducible refine Qc4 (b:= .append) (xs:= #[.tmp 28, .tmp 34]) rfl ?_);at_builtin;refine Kd.S_append (Kd.slice 3 (Kd.int .i64)) (w0:=w) w.heap.size rfl (.tmp 28) (.tmp 34) 40 24 (.slice none 0 0) 24 rfl Tryz.underlying40 Qfw rfl (by decide) (by omega) u4 x4_2 y157 [.slice Ao11 y157.length co11] (fun _=>True) (fun k_=>some k_=(.slice Ao11 y157.length co11:Value).ownBlock) rfl rfl ?aP (fun k_ hk_=>((Kd.R_mono (ok':=fun k_=>((fun _=>True)) k_∧some k_≠(u4:Value).ownBlock) (Kd.R_apart' (HO159.out) (Kd.S_typed HO_4.out) (by decide)) (fun k_ hk=>⟨trivial,hk.2⟩))).1 k_ hk_.symm) ?aF ?aO ?aB ?aS ?aL ?_;(case aP=>exact Kd.M_row (Kd.R_mono (Kd.R_tight rfl (Kd.R_mono (ok':=fun k_=>((fun _=>True)) k_∧some k_≠(u4:Value).ownBlock) (Kd.R_apart' (HO159.out) (Kd.S_typed HO_4.out) (by decide)) (fun k_ hk=>⟨trivial,hk.2⟩))) (fun _ h_=>h_)));(case aB=>exact (uB HB));(case aF=>exact (fun _ _=>trivial));(case aO=>exact (by (with_reducible repeat (first|apply Kd.S_alloc|apply Kd.S_drewN|apply Kd.S_drew));exact Kd.S_mono HO_4.out (fun k_ hk=>⟨trivial,fun e_=>hk.2 e_⟩)));(case aS=>exact (Qp (uB HB)));(case aL=>have:=LMc7.out;omega);intro v161 w10 ho hb hg hat;rw [←Ny160.out] at ho;replace BK155:=Aside0.mk (Qds (uK BK155) hg (Kd.S_ne HO_4.out BK155.out (by decide)));replace HB:=Aside0.mk (hb);have HO162:=Aside0.mk (ho);clear HO_4 HO159;clear ho hb hg hat));go_roundg k2
         case measure=>have:=HK1.out;have:=HK2.out;omega
         case rel=>exact ⟨(y160),(wrap64 (x6_2+1)),(by first|rfl|(simp;done)|(simp [*];done)),H',⟨by have:=HK1.out;have:=HK2.out;omega⟩,⟨uS HO162⟩,⟨uK BK155⟩,⟨uB HB⟩⟩
        ·
         rw [if_neg c7] at H;exact absurd H (by simp)
       ·
        rw [if_neg c6] at H;have c6b0:=decide_eq_false c6;clear c6;have H':=Aside0.mk H;clear H;go_wp2;go_roundg k2
        case measure=>have:=HK1.out;have:=HK2.out;omega
        case rel=>exact ⟨(x4_2),(wrap64 (x5_1+1)),(by first|rfl|(simp;done)|(simp [*];done)),H',⟨by have:=HK1.out;have:=HK2.out;omega⟩,⟨uS HO_4⟩,⟨uK BK155⟩,⟨uB HB⟩⟩
    ·
     rw [if_neg c5] at H;have c5b0:=decide_eq_false c5;clear c5;obtain ⟨A4,c4,e4⟩:=Kd.S_slice HO_4.out;subst e4;have RD:=Kd.R_reads' (Kd.S_R HO_4.out);have HC4:=Aside0.mk RD.2.2;have HL4:=Aside0.mk RD.2.1;have HBr:=Aside0.mk HB.out;clear RD HO_4 HK1;unfold Qx.p2 at H
     split at H
     ·
      rename_i hlen;obtain ⟨F',hF,hr⟩:=Option.map_eq_some_iff.mp H;injection hr with hr1 hr2
      subst hr1 hr2;have HF:=Aside0.mk hF;have HLn:=Aside0.mk hlen;clear H hF hlen;generalize x4_1=xs at*
      obtain ⟨w1,e1⟩: ∃ w1,w1=wr:=⟨_,rfl⟩
      subst e1;have hmk:=Qpr (P:=Tryz.prog) 24 3 .i64 8 Tryz.underlying24 rfl (by decide) xs.length (by have:=HLn.out;omega);go_wp2_with fail;have R0:=Aside0.mk (show Kd.R (Kd.int .i64) 3 ((w1.alloc (.cells (madeCells #[.int .i64 0] xs.length) 3)).alloc (.cells #[.slice (some ⟨w1.heap.size,0,none⟩) xs.length xs.length] 26)) w1.heap.size (fun _=>True) (.slice (some ⟨w1.heap.size,0,none⟩) xs.length xs.length) (List.replicate xs.length 0) from Kd.R_alloc (Qx.made_R w1 w1.heap.size _ xs.length rfl (Nat.le_refl _) HLn.out) _);have K0:=Aside0.mk (show ((w1.alloc (.cells (madeCells #[.int .i64 0] xs.length) 3)).alloc (.cells #[.slice (some ⟨w1.heap.size,0,none⟩) xs.length xs.length] 26)).heap[w1.heap.size+1]? =some (.cells #[.slice (some ⟨w1.heap.size,0,none⟩) xs.length xs.length] 26 (0,0)) by rw [show w1.heap.size+1=(w1.alloc (.cells (madeCells #[.int .i64 0] xs.length) 3)).heap.size from (Array.size_push ..).symm];exact Qim _ _);have B0:=Aside0.mk (Qo (Qo (Below.refl w1.heap.size w1) (.cells (madeCells #[.int .i64 0] xs.length) 3)) (.cells #[.slice (some ⟨w1.heap.size,0,none⟩) xs.length xs.length] 26));have HFU:=Aside0.mk (Nat.le_refl xs.length)
      go_loopg [42] xs.length (fun kq v42 wl=> ∃ (x:Int) (F:List Int),v42= .int .i64 x∧Aside0 (Qx.m0 xs kq x F=some F')∧Aside0 (kq≤xs.length)∧Aside0 (F.length=xs.length)∧Aside0 (Kd.R (Kd.int .i64) 3 wl w1.heap.size (fun _=>True) (.slice (some ⟨w1.heap.size,0,none⟩) xs.length xs.length) F)∧Aside0 (wl.heap[w1.heap.size+1]? =some (.cells #[.slice (some ⟨w1.heap.size,0,none⟩) xs.length xs.length] 26 (0,0)))∧Aside0 (Below w1.heap.size w1 wl))
      case atStart=>exact ⟨0,_,rfl,HF,HFU,⟨List.length_replicate⟩,R0,K0,B0⟩
      case round=>
       clear R0 K0 B0 HF;obtain ⟨x,F,rfl,HA,HK1,HN,HR,K,B⟩:=hrel
       by_cases hx:x<(xs.length:Int)
       ·
        cases gk with
        |zero=>
         have h:=HA.out;rw [Qx.m0,if_pos hx] at h;cases h
        |succ k1=>
         have h:=HA.out;rw [Qx.m0,if_pos hx] at h
         split at h
         ·
          rename_i hx0;obtain ⟨F1,hm,h⟩:=Option.bind_eq_some_iff.mp h;have HA2:=Aside0.mk h;clear h HA;obtain ⟨xn,rfl⟩:=Int.eq_ofNat_of_zero_le hx0;have hm':=hm;clear hm;obtain ⟨ad,As,cs,eA,hcs,hls,hCs⟩:=Go.Proofs.YtkgngggppcmpfaaGreat.X.row_at (Kd.C_below HC4.out (Below.refl _ _)) xn (by omega);cases eA;have hs:=(B.out.cell (World.block_lt_of_cell? w1 _ hcs)).trans hcs;have HCs:=Aside0.mk hCs;have HLs:=Aside0.mk hls;have hxb:(xn:Int)<(xs.length:Int):=hx;have HCA:=Aside0.mk hcs;clear hCs hls hcs;rw [Int.toNat_natCast] at hm';generalize xs.getD xn [] =s at hm' hs HCs HLs HCA;have HM:=Aside0.mk hm';clear hm';go_wp2_with fail
          go_loopg [49] xs.length (fun kq v49 wm=> ∃ (y:Int) (G:List Int),v49= .int .i64 y∧Aside0 (Qx.m1 xs xn s kq y G=some F1)∧Aside0 (kq≤xs.length)∧Aside0 (G.length=xs.length)∧Aside0 (Kd.R (Kd.int .i64) 3 wm w1.heap.size (fun _=>True) (.slice (some ⟨w1.heap.size,0,none⟩) xs.length xs.length) G)∧Aside0 (wm.heap[w1.heap.size+1]? =some (.cells #[.slice (some ⟨w1.heap.size,0,none⟩) xs.length xs.length] 26 (0,0)))∧Aside0 (Below w1.heap.size w1 wm))
          case atStart=>exact ⟨0,F,rfl,HM,HFU,HN,HR,K,B⟩
          case round=>
           clear HM HR K B hs HN;obtain ⟨y,G,rfl,HA3,HK2,HN,HR,K,B⟩:=hrel
           by_cases hy:y<(xs.length:Int)
           ·
            cases gk with
            |zero=>
             have h:=HA3.out;rw [Qx.m1,if_pos hy] at h;cases h
            |succ k2=>
             have h:=HA3.out;rw [Qx.m1,if_pos hy] at h
             split at h
             ·
              rename_i hc;have HA4':=h;clear h HA3;obtain ⟨yn,rfl⟩:=Int.eq_ofNat_of_zero_le hc.1;have hs1:=hc.2.1;have ht1:=hc.2.2;rw [Int.toNat_natCast] at ht1;clear hc;obtain ⟨ad2,At,ct,eA,hct,hlt,hCt⟩:=Go.Proofs.YtkgngggppcmpfaaGreat.X.row_at HC4.out yn (by omega);cases eA;have ht:=(B.out.cell (World.block_lt_of_cell? w1 _ hct)).trans hct;obtain ⟨ads,eA,s0⟩:=Kd.at_int (Kd.C_below HCs.out B.out) 0 (by omega) (by omega);cases eA;obtain ⟨ads2,eA,s1⟩:=Kd.at_int (Kd.C_below HCs.out B.out) 1 (by omega) (by omega);cases eA;obtain ⟨adt,eA,t0⟩:=Kd.at_int (Kd.C_below hCt B.out) 0 (by omega) (by omega);cases eA;obtain ⟨adt2,eA,t1⟩:=Kd.at_int (Kd.C_below hCt B.out) 1 (by omega) (by omega);cases eA;clear hCt hlt hct;have s0z:=s0;rw [Int.toNat_zero,Addr.add_zero'] at s0z;have s1z:=s1;rw [show ads.add (Int.toNat 1)= { block:=ads.block,off:=ads.off+1 } by simp [Addr.add]] at s1z;have t0z:=t0;rw [Int.toNat_zero,Addr.add_zero'] at t0z;have t1z:=t1;rw [show adt.add (Int.toNat 1)= { block:=adt.block,off:=adt.off+1 } by simp [Addr.add]] at t1z;rw [Int.toNat_natCast] at HA4';generalize xs.getD yn [] =t at*
              have q0:(0:Int)<(s.length:Int):=by omega
              have q1:(1:Int)<(s.length:Int):=by omega
              have r0:(0:Int)<(t.length:Int):=by omega
              have r1:(1:Int)<(t.length:Int):=by omega
              by_cases d1:(xn:Int)=(yn:Int)
              ·
               have HA5:=Aside0.mk (show Qx.m1 xs xn s k2 (wrap64 ((yn:Int)+1)) G=some F1 by rw [if_neg (fun c=>c.1 d1)] at HA4';exact HA4');have b1:((xn:Int) !=(yn:Int))=false:=bne_eq_false_iff_eq.mpr d1;have b2:((xn:Int)==(yn:Int))=true:=beq_iff_eq.mpr d1;clear d1 HA4';go_wp2_with fail
               repeat (go_quiet (fail);try go_wp2)
               go_roundg k2
               case measure=>have:=HK2.out;omega
               case rel=>exact ⟨wrap64 ((yn:Int)+1),G,rfl,HA5,⟨by have:=HK2.out;omega⟩,HN,⟨uR HR⟩,⟨uK K⟩,⟨by repeat (first|(with_reducible first|exact B.out|apply Qo|apply Qq|apply Qy)|exact B.out)⟩⟩
              ·
               have b1:((xn:Int) !=(yn:Int))=true:=bne_iff_ne.mpr d1;have b2:((xn:Int)==(yn:Int))=false:=beq_eq_false_iff_ne.mpr d1
               by_cases d2:rd s 0≤rd t 0
               ·
                have b3:decide (rd s 0≤rd t 0)=true:=decide_eq_true d2
                by_cases d3:rd t 1≤rd s 1
                ·
                 have b4:decide (rd t 1≤rd s 1)=true:=decide_eq_true d3;have HA5':=(show Qx.m1 xs xn s k2 (wrap64 ((yn:Int)+1)) (G.set xn (Go.bits .or .i64 (rd G xn) (shl .i64 1 (yn:Int))))=some F1 by rw [if_pos ⟨d1,d2,d3⟩] at HA4';exact HA4')
                 clear d1 d2 d3 HA4';have hxG:(xn:Int)<(G.length:Int):=by have:=HN.out;omega
                 obtain ⟨gf,cf2,e5,hgb,hgl,cells,hg⟩:=Kd.R_form HR.out (by omega);injection e5 with e51 hle e53
                 cases e51;obtain ⟨ad3,e6,hgx⟩:=Kd.at_int (Kd.R_reads' HR.out).2.2 (xn:Int) (by omega) hxG;cases e6;have hfz:=Qf hg xn;have zk:=Qci K.out 0;have hgz:wr.cell? ⟨w1.heap.size,xn,none⟩=some (.int .i64 (rd G xn)):=by
                  by_cases h0:xn=0
                  ·
                   subst h0;simpa [Addr.add] using hgx
                  ·
                   simpa [Addr.add,h0] using hgx
                 obtain ⟨ji,hji⟩: ∃ j_:Int,shl .i64 1 (yn:Int)=j_:=⟨_,rfl⟩
                 have hji_:(IntKind.i64.wrap (1*2 ^ min (yn:Int).toNat 64))=ji:=hji;have hjiu:(IntKind.i64.wrap (2 ^ min (yn:Int).toNat 64))=ji:=by have h_:=hji_;rw [Int.one_mul] at h_;exact h_
                 have hjin:(IntKind.i64.wrap (2 ^ min yn 64))=ji:=hjiu;rw [hji] at HA5';have HA5:=Aside0.mk HA5';clear HA5' hji hgx hgb hgl hle;go_wp2_with fail
                 go_region
                 all_goals
                  go_wp2_with fail
                  go_region
                  all_goals
                   go_wp2;go_roundg k2
                   case measure=>have:=HK2.out;omega
                   case rel=>exact ⟨wrap64 ((yn:Int)+1),G.set xn (Go.bits .or .i64 (rd G xn) ji),rfl,HA5,⟨by have:=HK2.out;omega⟩,⟨(List.length_set ..).trans HN.out⟩,⟨by (with_reducible repeat (first|apply Kd.R_alloc|apply Kd.R_drewN|apply Kd.R_drew));have h_:=(Kd.R_putg HR.out (xn:Int) (Go.bits .or .i64 (rd G xn) ji)).1;rwa [Int.toNat_natCast] at h_⟩,⟨by (with_reducible repeat (first|refine Qk ?_ _|refine Qj ?_|refine Qi ?_ _));exact Qd8 K.out (Nat.succ_ne_self _) _⟩,⟨by repeat (first|(with_reducible first|exact B.out|apply Qo|apply Qq|apply Qy)|exact Q4 B.out (Nat.le_refl _)|exact B.out)⟩⟩
                ·
                 have b4:decide (rd t 1≤rd s 1)=false:=decide_eq_false d3;have HA5:=Aside0.mk (show Qx.m1 xs xn s k2 (wrap64 ((yn:Int)+1)) G=some F1 by rw [if_neg (fun c=>d3 c.2.2)] at HA4';exact HA4');clear d1 d2 d3 HA4';go_wp2_with fail
                 go_region
                 all_goals
                  go_wp2;go_roundg k2
                  case measure=>have:=HK2.out;omega
                  case rel=>exact ⟨wrap64 ((yn:Int)+1),G,rfl,HA5,⟨by have:=HK2.out;omega⟩,HN,⟨uR HR⟩,⟨uK K⟩,⟨by repeat (first|(with_reducible first|exact B.out|apply Qo|apply Qq|apply Qy)|exact B.out)⟩⟩
               ·
                have b3:decide (rd s 0≤rd t 0)=false:=decide_eq_false d2;have HA5:=Aside0.mk (show Qx.m1 xs xn s k2 (wrap64 ((yn:Int)+1)) G=some F1 by rw [if_neg (fun c=>d2 c.2.1)] at HA4';exact HA4');clear d1 d2 HA4';go_wp2_with fail
                go_region
                all_goals
                 go_wp2;go_roundg k2
                 case measure=>have:=HK2.out;omega
                 case rel=>exact ⟨wrap64 ((yn:Int)+1),G,rfl,HA5,⟨by have:=HK2.out;omega⟩,HN,⟨uR HR⟩,⟨uK K⟩,⟨by repeat (first|(with_reducible first|exact B.out|apply Qo|apply Qq|apply Qy)|exact B.out)⟩⟩
             ·
              cases h
           ·
            have h:=HA3.out;have e:G=F1:=by
             cases gk with
             |zero=>rw [Qx.m1,if_neg hy] at h;exact Option.some.inj h
             |succ k2=>rw [Qx.m1,if_neg hy] at h;exact Option.some.inj h
            subst e;clear h HA3;go_wp2;go_roundg k1
            case measure=>have:=HK1.out;omega
            case rel=>exact ⟨wrap64 ((xn:Int)+1),G,rfl,HA2,⟨by have:=HK1.out;omega⟩,HN,HR,K,B⟩
         ·
          cases h
       ·
        have h:=HA.out;have e:F=F':=by
         cases gk with
         |zero=>rw [Qx.m0,if_neg hx] at h;exact Option.some.inj h
         |succ k1=>rw [Qx.m0,if_neg hx] at h;exact Option.some.inj h
        subst e;clear h HA HFU;have BKe:=Aside0.mk (show wr.heap[gb155]? =some (.cells #[.slice none 0 0] 26 (0,0)) from Qc BK155.out B.out);have hcz:wr.cell? ⟨gb155,0,none⟩=some (.slice none 0 0):=(Qci BKe.out 0).trans rfl;have hfz:=Qf BKe.out 0;have zk:=(Qci K.out 0).trans rfl;go_wp2;refine bodyPost_ret (Qd7 rfl _ _ gb155 26 #[.slice (some ⟨w1.heap.size,0,none⟩) xs.length xs.length] (0,0) _ rfl (by (with_reducible repeat (first|refine Qk ?_ _|refine Qj ?_|refine Qi ?_ _));refine Qcs (cs:= #[.slice none 0 0]) ?_ 0 _ rfl;(with_reducible repeat (first|refine Qk ?_ _|refine Qj ?_|refine Qi ?_ _));exact BKe.out) Tryz.underlying26 rfl (by kernel_rfl)) rfl ?_;exact ⟨_,by first|rfl|(simp;done),by (with_reducible repeat (first|apply Kd.R_alloc|apply Kd.R_drewN|apply Kd.R_drew));exact Kd.R_mono (Kd.R_far (p:=⟨gb155,0,none⟩) (Kd.R_types (Kd.R_lower HR.out HBr.out.size) BKe.out (by decide)) (fun _ hk=>hk.2) _) (fun _ hk=>trivial),by (repeat (first|(with_reducible apply Qo)|(with_reducible apply Qq)|(with_reducible apply Qy)));exact Q4 (HBr.out.trans (B.out.mono HBr.out.size)) GE155.out⟩
     ·
      cases H
 ·
  replace c3:=Bool.eq_false_iff.mpr c3;subst c3;rw [if_neg (show ¬ (false=true) by decide)] at H;simp only [Option.some.injEq,Prod.mk.injEq] at H;obtain ⟨rfl,rfl⟩:=H;go_enter Tryz.func268,Tryz.ntmps268;go_wp2_with (first|(refine bE (N:=2) (cs:= #[.slice none 0 0]) (t:=26) ?_;intro gb155 hg w12 hbox hb;have BK155:=Aside0.mk (hbox);have GW155:=Aside0.mk ((gV hg (uB HB)));have GE155:=GW155;replace HB:=Aside0.mk (Qa (uB HB) hb);clear hb hbox hg)|(refine gA (some 13) Tryz.func192 #[.int .i64 a0, .int .i64 1, .int .i64 4] ?_;(with_reducible refine (Qde.calls a0 1 4 false _ A2.out).mono ?_);rintro e w' ⟨rfl,⟨nd,rfl⟩⟩;refine ⟨_,rfl,?_⟩;(try (rw [Qhg w12];generalize hq_:World.drewN w12 _=w12;have n0_:Aside0 (w12.heap[gb155]? =some (.cells #[.slice none 0 0] 26 (0,0))):=⟨by rw [←hq_];exact (uK BK155)⟩;have n1_:Aside0 (Below w.heap.size w w12):=⟨by rw [←hq_];exact (uB HB)⟩;clear BK155 HB hq_;have BK155:=n0_;have HB:=n1_;clear n0_ n1_));have hcz13_0:=bC BK155;have hfz13_0:=Qf BK155.out 0));refine bodyPost_ret (Qd7 rfl _ _ gb155 26 #[.slice none 0 0] (0,0) _ rfl (by (with_reducible repeat (first|refine Qk ?_ _|refine Qj ?_|refine Qi ?_ _));refine Qcs (cs:= #[.slice none 0 0]) ?_ 0 _ rfl;(with_reducible repeat (first|refine Qk ?_ _|refine Qj ?_|refine Qi ?_ _));exact BK155.out) Tryz.underlying26 rfl (by kernel_rfl)) rfl ?_;exact ⟨_,by first|rfl|(simp [Qd,Qe] <;>rfl)|(simp [*,Qd,Qe] <;>rfl),by first|exact Kd.R_nil _ _ _ _ _|exact Kd.N_nil _ _ _ _ _|exact Kd.V_nil _ _ _ _ _|exact Kd.Q_nil _ _ _ _ _|exact Kd.S_nil _ _ _ _ _,by repeat (first|(with_reducible first|exact HB.out|apply Qo|apply Qq|apply Qy|refine Q4 ?_ GE155.out)|exact HB.out)⟩
mutual
def Qbg.l0 : Nat → Int → List (List Int) → Int → List Int → Option (List Int)
 |0,_,_,_,_=>none
 |k+1,x0,x1,x6,x126000=>if x6<x0 then (Qbg.l1 k x0 x1 x6 x1 (x1.length:Int) 0 x126000) else (some x126000)
def Qbg.l1 : Nat → Int → List (List Int) → Int → List (List Int) → Int → Int → List Int → Option (List Int)
 |0,_,_,_,_,_,_,_=>none
 |k+1,x0,x1,x6,x17,x18,x19,x126000=>if x19<x18 then (if 0≤x19 then (if x19<(x17.length:Int) then (if 1<((Qb2 x17 x19).length:Int) then (if (rd (Qb2 x17 x19) 1)=x6 then (if 0≤x6 then (if x6<(x126000.length:Int) then (if 0<((Qb2 x17 x19).length:Int) then (if 0≤(rd (Qb2 x17 x19) 0) then (if (rd (Qb2 x17 x19) 0)<(x126000.length:Int) then (Qbg.l1 k x0 x1 x6 x17 x18 (wrap64 (x19+1)) (x126000.set (x6:Int).toNat (Go.bits .or .i64 (rd x126000 x6) (Go.bits .or .i64 (shl .i64 1 (rd (Qb2 x17 x19) 0)) (rd x126000 (rd (Qb2 x17 x19) 0)))))) else (none)) else (none)) else (none)) else (none)) else (none)) else (Qbg.l1 k x0 x1 x6 x17 x18 (wrap64 (x19+1)) x126000)) else (none)) else (none)) else (none)) else (Qbg.l0 k x0 x1 (wrap64 (x6+1)) x126000)
end
def Qbg.f (k : Nat) (a0 : Int) (l1 : List (List Int)) : Option (List Int) := if 0 ≤ a0 then (if (a0 : Int).toNat ≤ 35184372088832 then (Qbg.l0 k a0 l1 0 (List.replicate (a0 : Int).toNat 0)) else (none)) else (none)
theorem Qbg.mono_l : ∀ k, (∀ y0 y1 y2 y3, LeO (Qbg.l0 k y0 y1 y2 y3) (Qbg.l0 (k + 1) y0 y1 y2 y3)) ∧ (∀ y0 y1 y2 y3 y4 y5 y6, LeO (Qbg.l1 k y0 y1 y2 y3 y4 y5 y6) (Qbg.l1 (k + 1) y0 y1 y2 y3 y4 y5 y6))
 |0=>⟨fun _ _ _ _ r h=>by simp [Qbg.l0] at h,fun _ _ _ _ _ _ _ r h=>by simp [Qbg.l1] at h⟩
 |k+1=>by
  obtain ⟨ih0,ih1⟩:=Qbg.mono_l k;refine ⟨?_,?_⟩
  all_goals
   intros
   first|unfold Qbg.l0|unfold Qbg.l1
   repeat' (with_reducible first|apply ih0|apply ih1|exact LeO.refl _|exact LeO.none _|refine LeO.ite ?_ ?_|refine LeO.bind ?_ (fun _=> ?_))
theorem Qbg.mono : ∀ a0 a1 k, LeO (Qbg.f k a0 a1) (Qbg.f (k + 1) a0 a1) := by
 intro a0 a1 k;obtain ⟨ih0,ih1⟩:=Qbg.mono_l k;unfold Qbg.f
 repeat' (with_reducible first|apply ih0|apply ih1|exact LeO.refl _|exact LeO.none _|refine LeO.ite ?_ ?_|refine LeO.bind ?_ (fun _=> ?_))
def Qbg.T9 : Bool × List (List Nat × List Nat) := (true, [([], []), ([0], [0]), ([], []), ([1, 2], [1, 2]), ([3], [3]), ([], []), ([5], [5]), ([6], [6]), ([7], [7]), ([], []), ([9], [9]), ([], []), ([11], [11]), ([12], [12]), ([10, 13], [10, 13]), ([14], [14]), ([8, 15], [8, 15]), ([4, 16], [4, 16]), ([1, 2, 0, 1, 2, 3, 4, 5, 6, 7, 8, 9, 10, 11, 12, 13, 14, 15, 16, 17], [1, 2]), ([18, 17, 0, 1, 2, 3, 4, 5, 6, 7, 8, 9, 10, 11, 12, 13, 14, 15, 16, 17], [17, 18])])
def Qbg.B9 : List Nat := [0, 1, 0, 7, 15, 0, 32, 96, 224, 0, 512, 0, 2048, 6144, 15872, 32256, 65504, 131071, 262143, 524287]
theorem Qbg.tab9 : rtab .any (Qf2 Tryz.f163 9) = Qbg.T9 := by kernel_rfl
theorem Qbg.bits9 : Qd9 Qbg.T9.2 Qbg.B9 = true := by kernel_rfl
set_option maxHeartbeats 8000000 in
set_option maxRecDepth 100000 in
theorem Qbg.calls (k : Nat) (a0 : Int) (A1 : Option Addr) (c1 : Nat) (l1 : List (List Int)) (r : List Int) (w : World) (hr1 : Kd.C (Kd.slice 3 (Kd.int .i64)) w A1 l1.length l1) (hc1 : l1.length ≤ c1) (h : Qbg.f k a0 l1 = some r) :
 Calls Tryz.prog 163 #[.int .i64 a0, .slice A1 l1.length c1] w fun e w'=> ∃ v0_:Value,e= .returned (.agg #[v0_])∧Kd.R (Kd.int .i64) 3 w' w.heap.size (fun _=>True) v0_ r∧Below w.heap.size w w':=by
 have hu26:=Tryz.underlying26;have HR1:=Aside0.mk hr1;have HC1:=Aside0.mk hc1;clear hr1 hc1;have HB:=Aside0.mk (Below.refl w.heap.size w);have H:(if 0≤a0 then (if (a0:Int).toNat≤35184372088832 then (Qbg.l0 k a0 l1 0 (List.replicate (a0:Int).toNat 0)) else (none)) else (none))=some r:=h;clear h
 by_cases c3:0≤a0
 ·
  rw [if_pos c3] at H;have c3b0:=eq_true c3;have c3b1:=decide_eq_true c3;clear c3
  by_cases c4:(a0:Int).toNat≤35184372088832
  ·
   rw [if_pos c4] at H;have c4b0:=eq_true c4;have c4b1:=decide_eq_true c4;clear c4;obtain ⟨y122,hy122⟩: ∃ y_:List Int,y_=(List.replicate (a0:Int).toNat 0):=⟨_,rfl⟩
   replace H:(Qbg.l0 k a0 l1 0 y122)=some r:=by first|(rw [hy122];with_reducible exact H)|(have H2_:=(Option.bind_some _ _).symm.trans H;rw [hy122];with_reducible exact H2_)|(have H2_:=(Option.bind_some _ _).symm.trans H;with_reducible exact H2_)|with_reducible exact H|(rw [hy122];exact H)|exact H
   have Ny122:=Aside0.mk hy122;clear hy122;have H':=Aside0.mk H;clear H;go_enter Tryz.func163,Tryz.ntmps163;go_wp2_with (first|(refine bE (N:=4) (cs:= #[.slice none 0 0]) (t:=26) ?_;intro gb121 hg w5 hbox hb;have BK121:=Aside0.mk (hbox);have GW121:=Aside0.mk ((gV hg (uB HB)));have GE121:=GW121;replace HB:=Aside0.mk (Qa (uB HB) hb);clear hb hbox hg)|((with_reducible refine Qc0 (N:=10) rfl ?_);refine Kd.R_make (Kd.int .i64) _ 3 rfl (N:=10) rfl 24 _ _ rfl a0 rfl rfl Tryz.underlying24 (.int .i64 0) 8 Qfm rfl (by decide) (by omega) 0 (ok:=fun _=>True) (okp:=fun _=>True) rfl (fun _ hk=>hk) trivial (of_decide_eq_true (by first|(with_reducible assumption)|assumption)) (Nat.le_trans (Nat.mul_le_mul_right _ (of_decide_eq_true (by first|(with_reducible assumption)|assumption):a0.toNat≤35184372088832)) (by omega)) (Below.refl _ _) (Nat.le_refl _) ?_;intro v123 w6 ho7 hb hg_ hnew_;clear hg_ hnew_;(first|rw [←Ny122.out] at ho7|(simp only [Int.reduceToNat] at ho7;rw [←Ny122.out] at ho7));have HO124:=Aside0.mk (Kd.R_lower ho7 (Qp (uB HB)));replace BK121:=Aside0.mk (Qc (uK BK121) hb);replace HB:=Aside0.mk (Qa (uB HB) hb);clear hb ho7;obtain ⟨Ao8,co8,eo8⟩:=Kd.R_slice HO124.out;subst eo8)|(refine bE (N:=5) (cs:= #[.slice none 0 0]) (t:=26) ?_;intro gb125 hg w9 hbox hb;replace HO124:=Aside0.mk (Kd.R_below (uR HO124) hb);have BK125:=Aside0.mk (hbox);have GW125:=Aside0.mk ((gV hg (uB HB)));have GE125:=GW125;replace HB:=Aside0.mk (Qa (uB HB) hb);have NB121_125:=Aside0.mk ((nL hg (Qcc (uK BK121))));have NB125_121:=Aside0.mk ((nG hg (Qcc (uK BK121))));replace BK121:=Aside0.mk (Qc (uK BK121) hb);clear hb hbox hg;have hnb10:=NB125_121.out;have hnc10:=NB121_125.out;have hcz11_0:=bC BK125;have hfz11_0:=Qf BK125.out 0))
   go_loopg [6] k (fun kq v6 w'=> ∃ (x6_1:Int) (x126000_1:List Int) (u126000:Value),v6= .int .i64 x6_1∧Aside0 (Qbg.l0 kq a0 l1 x6_1 x126000_1=some r)∧Aside0 (kq≤k)∧Aside0 (Kd.R (Kd.int .i64) 3 w' w.heap.size (fun _=>True) u126000 x126000_1)∧Aside0 (w'.heap[gb121]? =some (.cells #[(.slice none 0 0)] 26 (0,0)))∧Aside0 (w'.heap[gb125]? =some (.cells #[u126000] 26 (0,0)))∧Aside0 (Below w.heap.size w w'))
   case atStart=>exact ⟨(0),(y122),(.slice Ao8 y122.length co8),(by first|rfl|(simp;done)|(simp [*];done)),H',⟨Nat.le_refl _⟩,⟨by (with_reducible repeat (first|apply Kd.R_alloc|apply Kd.R_drewN|apply Kd.R_drew));exact Kd.R_mono (Kd.R_far (p:=⟨gb125,0,none⟩) (Kd.R_types HO124.out BK125.out (by decide)) (fun _ hk=>hk.2) (.slice Ao8 y122.length co8)) (fun _ hk=>trivial)⟩,⟨by (with_reducible repeat (first|refine Qk ?_ _|refine Qj ?_|refine Qi ?_ _));refine Qd8 ?_ NB121_125.out _;(with_reducible repeat (first|refine Qk ?_ _|refine Qj ?_|refine Qi ?_ _));exact BK121.out⟩,⟨by (with_reducible repeat (first|refine Qk ?_ _|refine Qj ?_|refine Qi ?_ _));refine Qcs (cs:= #[.slice none 0 0]) ?_ 0 _ rfl;(with_reducible repeat (first|refine Qk ?_ _|refine Qj ?_|refine Qi ?_ _));exact BK125.out⟩,⟨by repeat (first|(with_reducible first|exact HB.out|apply Qo|apply Qq|apply Qy|refine Q4 ?_ GE121.out|refine Q4 ?_ GE125.out)|exact HB.out)⟩⟩
   case round=>
    clear H'
    try clear c1
    try clear p2
    try clear c3
    try clear c3b0
    try clear c3b1
    try clear c4
    try clear c4b0
    try clear c4b1
    try clear c10
    try clear hcz11_0
    try clear hfz11_0
    obtain ⟨x6_1,x126000_1,u126000,rfl,HA,HK1,HO_126000,BK121,BK125,HB⟩:=hrel;cases gk with
    |zero=>exact absurd HA.out (by simp [Qbg.l0])
    |succ k1=>
     have H:=HA.out;clear HA;simp only [Qbg.l0] at H
     by_cases c12:x6_1<a0
     ·
      rw [if_pos c12] at H;have c12b0:=decide_eq_true c12;clear c12;have H':=Aside0.mk H;clear H;go_wp2
      go_loopg [19] k1 (fun kq v19 w'=> ∃ (x19_2:Int) (x126000_2:List Int) (u126000:Value),v19= .int .i64 x19_2∧Aside0 (Qbg.l1 kq a0 l1 x6_1 l1 (l1.length:Int) x19_2 x126000_2=some r)∧Aside0 (kq≤k1)∧Aside0 (Kd.R (Kd.int .i64) 3 w' w.heap.size (fun _=>True) u126000 x126000_2)∧Aside0 (w'.heap[gb121]? =some (.cells #[(.slice none 0 0)] 26 (0,0)))∧Aside0 (w'.heap[gb125]? =some (.cells #[u126000] 26 (0,0)))∧Aside0 (Below w.heap.size w w'))
      case atStart=>exact ⟨(0),(x126000_1),(u126000),(by first|rfl|(simp;done)|(simp [*];done)),H',⟨Nat.le_refl _⟩,⟨uR HO_126000⟩,⟨uK BK121⟩,⟨uK BK125⟩,⟨uB HB⟩⟩
      case round=>
       clear H'
       try clear c1
       try clear p2
       try clear c3
       try clear c3b0
       try clear c3b1
       try clear c4
       try clear c4b0
       try clear c4b1
       try clear c10
       try clear c12
       try clear c12b0
       try clear hcz11_0
       try clear hfz11_0
       try clear p2
       obtain ⟨x19_2,x126000_2,u126000,rfl,HA,HK2,HO_126000,BK121,BK125,HB⟩:=hrel;cases gk with
       |zero=>exact absurd HA.out (by simp [Qbg.l1])
       |succ k2=>
        have H:=HA.out;clear HA;simp only [Qbg.l1] at H
        by_cases c13:x19_2<(l1.length:Int)
        ·
         rw [if_pos c13] at H;have c13b0:=decide_eq_true c13;clear c13
         by_cases c14:0≤x19_2
         ·
          rw [if_pos c14] at H;have c14b0:=decide_eq_true c14;clear c14
          by_cases c15:x19_2<(l1.length:Int)
          ·
           rw [if_pos c15] at H;have c15b0:=decide_eq_true c15;clear c15
           by_cases c16:1<((Qb2 l1 x19_2).length:Int)
           ·
            rw [if_pos c16] at H;have c16b0:=decide_eq_true c16;have c16b1:decide (1<(Qb2 l1 x19_2).length)=true:=decide_eq_true (by omega);clear c16
            by_cases c17:(rd (Qb2 l1 x19_2) 1)=x6_1
            ·
             rw [if_pos c17] at H;have c17b0:((rd (Qb2 l1 x19_2) 1)==x6_1)=true:=beq_iff_eq.mpr c17;have c17b1:((rd (Qb2 l1 x19_2) 1) !=x6_1)=false:=bne_eq_false_iff_eq.mpr c17;clear c17
             by_cases c18:0≤x6_1
             ·
              rw [if_pos c18] at H;have c18b0:=decide_eq_true c18;clear c18
              by_cases c19:x6_1<(x126000_2.length:Int)
              ·
               rw [if_pos c19] at H;have c19b0:=decide_eq_true c19;clear c19
               by_cases c20:0<((Qb2 l1 x19_2).length:Int)
               ·
                rw [if_pos c20] at H;have c20b0:=decide_eq_true c20;have c20b1:decide (0<(Qb2 l1 x19_2).length)=true:=decide_eq_true (by omega);clear c20
                by_cases c21:0≤(rd (Qb2 l1 x19_2) 0)
                ·
                 rw [if_pos c21] at H;have c21b0:=eq_true c21;have c21b1:=decide_eq_true c21;clear c21;obtain ⟨ji22,hji22⟩: ∃ j_:Int,(shl .i64 1 (rd (Qb2 l1 x19_2) 0))=j_:=⟨_,rfl⟩
                 replace H:(if (rd (Qb2 l1 x19_2) 0)<(x126000_2.length:Int) then (Qbg.l1 k2 a0 l1 x6_1 l1 (l1.length:Int) (wrap64 (x19_2+1)) (x126000_2.set (x6_1:Int).toNat (Go.bits .or .i64 (rd x126000_2 x6_1) (Go.bits .or .i64 (ji22) (rd x126000_2 (rd (Qb2 l1 x19_2) 0)))))) else (none))=some r:=by first|(rw [hji22] at H;exact H)|(simp only [hji22] at H ⊢;exact H)
                 have hji22_:(IntKind.i64.wrap (1*2 ^ min (rd (Qb2 l1 x19_2) 0).toNat 64))=ji22:=hji22;have hji22z:(rd (Qb2 l1 x19_2) 0)≤64→(IntKind.i64.wrap (1*2 ^ (rd (Qb2 l1 x19_2) 0).toNat))=ji22:=Qd1 hji22;have hji22u:(IntKind.i64.wrap (2 ^ min (rd (Qb2 l1 x19_2) 0).toNat 64))=ji22:=by have h_:=hji22_;rw [Int.one_mul] at h_;exact h_
                 have hji22v:(rd (Qb2 l1 x19_2) 0)≤64→(IntKind.i64.wrap (2 ^ (rd (Qb2 l1 x19_2) 0).toNat))=ji22:=fun hle_=>by have h_:=hji22z hle_;rw [Int.one_mul] at h_;exact h_
                 have hji22y:(wrap64 (1*2 ^ min (rd (Qb2 l1 x19_2) 0).toNat 64))=ji22:=(Qcu _).symm.trans hji22_;have hji22x:(rd (Qb2 l1 x19_2) 0)≤64→(wrap64 (1*2 ^ (rd (Qb2 l1 x19_2) 0).toNat))=ji22:=fun h_=>(Qcu _).symm.trans (hji22z h_)
                 by_cases c23:(rd (Qb2 l1 x19_2) 0)<(x126000_2.length:Int)
                 ·
                  rw [if_pos c23] at H;have c23b0:=decide_eq_true c23;clear c23;obtain ⟨y132,hy132⟩: ∃ y_:List Int,y_=(x126000_2.set (x6_1:Int).toNat (Go.bits .or .i64 (rd x126000_2 x6_1) (Go.bits .or .i64 (ji22) (rd x126000_2 (rd (Qb2 l1 x19_2) 0))))):=⟨_,rfl⟩
                  replace H:(Qbg.l1 k2 a0 l1 x6_1 l1 (l1.length:Int) (wrap64 (x19_2+1)) y132)=some r:=by first|(rw [hy132];with_reducible exact H)|(have H2_:=(Option.bind_some _ _).symm.trans H;rw [hy132];with_reducible exact H2_)|(have H2_:=(Option.bind_some _ _).symm.trans H;with_reducible exact H2_)|with_reducible exact H|(rw [hy132];exact H)|exact H
                  have Ny132:=Aside0.mk hy132;clear hy132;have H':=Aside0.mk H;clear H;have p126:0≤(x19_2:Int):=of_decide_eq_true (by first|(with_reducible assumption)|assumption);have q126:x19_2<(l1.length:Int):=of_decide_eq_true (by first|(with_reducible assumption)|assumption);obtain ⟨ad126,A126_0,c126_0,e126,hx126_0,hl126_0,hi126_0⟩:=at_L2 HR1.out x19_2 p126 q126;cases e126;replace hx126_0:=(HB.out.cell (World.block_lt_of_cell? w _ hx126_0)).trans hx126_0;have HR126_0:=Aside0.mk hi126_0;have HC126_0:=Aside0.mk hl126_0;clear hi126_0 hl126_0;replace p126:=eq_true p126;replace q126:=eq_true q126;have p127:0≤(1:Int):=(by omega)
                  have q127:1<((Qb2 l1 x19_2).length:Int):=of_decide_eq_true (by first|(with_reducible assumption)|assumption);obtain ⟨ad127,e127,hx127_0⟩:=Kd.at_int HR126_0.out 1 p127 q127;cases e127
                  (try simp only [show (1:Int).toNat=1 from rfl,Nat.reduceMul,Nat.reduceEqDiff,Go.Addr.add,↓reduceIte] at hx127_0)
                  have qi127:(1<(Qb2 l1 x19_2).length)=True:=eq_true (by omega)
                  (try rw [show ((1:Int)).toNat=1 from rfl] at hx127_0)
                  replace hx127_0:=(HB.out.cell (World.block_lt_of_cell? w _ hx127_0)).trans hx127_0;replace p127:=eq_true p127;replace q127:=eq_true q127
                  try go_wp2
                  replace HO_126000:=Aside0.mk (Kd.R_drew HO_126000.out);replace BK121:=Aside0.mk (Qj BK121.out);replace BK125:=Aside0.mk (Qj BK125.out);replace HB:=Aside0.mk (Qy HB.out);obtain ⟨Ao26,co26,eo26⟩:=Kd.R_slice HO_126000.out
                  (first|subst eo26|(injection eo26 with f1_ f2_ f3_;have f4_:=f1_.symm;have f5_:=f3_.symm;clear f1_ f2_ f3_;subst f4_;subst f5_))
                  have p128:0≤(x6_1:Int):=of_decide_eq_true (by first|(with_reducible assumption)|assumption);have q128:x6_1<(x126000_2.length:Int):=of_decide_eq_true (by first|(with_reducible assumption)|assumption);obtain ⟨ad128,e128,hx128_0⟩:=Kd.at_int (Kd.R_reads' HO_126000.out).2.2 x6_1 p128 q128;cases e128;replace p128:=eq_true p128;replace q128:=eq_true q128;have p129:0≤(0:Int):=(by omega)
                  have q129:0<((Qb2 l1 x19_2).length:Int):=of_decide_eq_true (by first|(with_reducible assumption)|assumption);obtain ⟨ad129,e129,hx129_0⟩:=Kd.at_int HR126_0.out 0 p129 q129;have hw129_0:=hx129_0
                  (try rw [show ((0:Int)).toNat=0 from rfl] at hw129_0)
                  (try rw [show 0*1=0 from rfl] at hw129_0)
                  (try rw [Addr.add_zero'] at hw129_0)
                  obtain rfl:ad127=ad129:=(by injection e129)
                  have qi129:(0<(Qb2 l1 x19_2).length)=True:=eq_true (by omega)
                  (try rw [show ((0:Int)).toNat=0 from rfl] at hx129_0)
                  (try rw [Addr.add_zero'] at hx129_0)
                  replace hx129_0:=(HB.out.cell (World.block_lt_of_cell? w _ hx129_0)).trans hx129_0;replace p129:=eq_true p129;replace q129:=eq_true q129;have p130:0≤(0:Int):=(by omega)
                  have q130:0<((Qb2 l1 x19_2).length:Int):=of_decide_eq_true (by first|(with_reducible assumption)|assumption);obtain ⟨ad130,e130,hx130_0⟩:=Kd.at_int HR126_0.out 0 p130 q130;have hw130_0:=hx130_0
                  (try rw [show ((0:Int)).toNat=0 from rfl] at hw130_0)
                  (try rw [show 0*1=0 from rfl] at hw130_0)
                  (try rw [Addr.add_zero'] at hw130_0)
                  obtain rfl:ad127=ad130:=(by injection e130)
                  have qi130:(0<(Qb2 l1 x19_2).length)=True:=eq_true (by omega)
                  (try rw [show ((0:Int)).toNat=0 from rfl] at hx130_0)
                  (try rw [Addr.add_zero'] at hx130_0)
                  replace hx130_0:=(HB.out.cell (World.block_lt_of_cell? w _ hx130_0)).trans hx130_0;replace p130:=eq_true p130;replace q130:=eq_true q130;have p131:0≤((rd (Qb2 l1 x19_2) 0):Int):=of_decide_eq_true (by first|(with_reducible assumption)|assumption);have q131:(rd (Qb2 l1 x19_2) 0)<(x126000_2.length:Int):=of_decide_eq_true (by first|(with_reducible assumption)|assumption);obtain ⟨ad131,e131,hx131_0⟩:=Kd.at_int (Kd.R_reads' HO_126000.out).2.2 (rd (Qb2 l1 x19_2) 0) p131 q131;obtain rfl:ad128=ad131:=(by injection e131)
                  replace p131:=eq_true p131;replace q131:=eq_true q131;have p24:0≤(x6_1:Int):=of_decide_eq_true (by first|(with_reducible assumption)|assumption);have q24:(x6_1:Int)<((x126000_2.length:Int):Int):=of_decide_eq_true (by first|(with_reducible assumption)|assumption);obtain ⟨go24,co24,eo24,gb24,gl24,cl24,HG24⟩:=Kd.R_form HO_126000.out (by omega)
                  (first|cases eo24|(injection eo24 with ea_ en_ ec_;(first|subst ea_|(injection ea_ with ea_;subst ea_));subst ec_;clear en_))
                  have GB24:=Aside0.mk gb24;have GG24:=Aside0.mk HG24;clear gb24 gl24 HG24
                  (first|simp only [Qe2] at hx128_0|skip)
                  (first|simp only [Qe2] at hx131_0|skip)
                  obtain ⟨hx24_0,hf24_0⟩:=Kd.R_celln 0 HO_126000.out (x6_1:Int) p24 q24;replace p24:=eq_true p24;replace q24:=eq_true q24;have HP27:=Kd.R_putn HO_126000.out (x6_1:Int) (Go.bits .or .i64 (rd x126000_2 x6_1) (Go.bits .or .i64 (ji22) (rd x126000_2 (rd (Qb2 l1 x19_2) 0))));rw [←Ny132.out] at HP27;have HQ27:=Aside0.mk HP27;clear HP27;refine sU (n:=20) (S:=fun w'=>w'.cell? ⟨gb125,0,none⟩=some (.slice (some ⟨go24,0,none⟩) x126000_2.length co26)∧w'.cell? ⟨go24,(x6_1).toNat,none⟩=some (.int .i64 (rd x126000_2 x6_1))∧w'.cell? ad127=some (.int .i64 (rd (Qb2 l1 x19_2) 0))∧w'.cell? ad127=some (.int .i64 (rd (Qb2 l1 x19_2) 0))∧w'.cell? ⟨go24,((rd (Qb2 l1 x19_2) 0)).toNat,none⟩=some (.int .i64 (rd x126000_2 (rd (Qb2 l1 x19_2) 0)))) (ds:= [19]) ⟨(Qci BK125.out 0).trans rfl,hx128_0,((HB.out.cell (World.block_lt_of_cell? w _ hw129_0)).trans hw129_0),((HB.out.cell (World.block_lt_of_cell? w _ hw130_0)).trans hw130_0),hx131_0⟩ (fun hHeld=> ?_);refine Qeg Qbg.tab9 Qbg.bits9 (fun HT_ HW_=> ?_);generalize wr.drew=w25 at HO_126000 BK121 BK125 HB GG24 HQ27 hf24_0 hx128_0 hx129_0 hx130_0 hx131_0 hx24_0 hHeld ⊢;refine pU 0 28 ?_;refine pU 2 30 ?_;refine pU 5 33 ?_;refine pU 6 34 ?_;refine pU 9 37 ?_;refine pU 11 39 ?_;refine pU 12 40 ?_;refine take_ (i:=1) (N:=some 29) (v:= ?_) (a':= ?_) #[true,true,true,false,false,true,true,false,false,true,false,true,true,false,false,false,false,false,false,false] rfl rfl (Qga HT_.out HW_.out (by kernel_rfl)) (fun _ _ _ h=>h) (Or.inl ⟨by rfl,?_⟩) hHeld ?_ ?_;rotate_left
                  ·
                   rintro w' ⟨s0,s1,s2,s3,s4⟩;go_simp
                   with_reducible rfl
                  rotate_left
                  ·
                   simp only [Act.put,List.setIfInBounds_toArray,List.set_cons_zero,List.set_cons_succ,Qcu,Qef];rfl
                  refine pU 3 31 ?_;refine take_ (i:=4) (N:=some 32) (v:= ?_) (a':= ?_) #[true,true,true,true,true,true,true,false,false,true,false,true,true,false,false,false,false,false,false,false] rfl rfl (Qga HT_.out HW_.out (by kernel_rfl)) (fun _ _ _ h=>h) (Or.inl ⟨by rfl,?_⟩) hHeld ?_ ?_;rotate_left
                  ·
                   rintro w' ⟨s0,s1,s2,s3,s4⟩;go_simp
                   with_reducible rfl
                  rotate_left
                  ·
                   simp only [Act.put,List.setIfInBounds_toArray,List.set_cons_zero,List.set_cons_succ,Qcu,Qef];rfl
                  refine take_ (i:=7) (N:=some 35) (v:= ?_) (a':= ?_) #[true,true,true,true,true,true,true,true,false,true,false,true,true,false,false,false,false,false,false,false] rfl rfl (Qga HT_.out HW_.out (by kernel_rfl)) (fun _ _ _ h=>h) (Or.inl ⟨by rfl,?_⟩) hHeld ?_ ?_;rotate_left
                  ·
                   rintro w' ⟨s0,s1,s2,s3,s4⟩;go_simp
                   with_reducible rfl
                  rotate_left
                  ·
                   simp only [Act.put,List.setIfInBounds_toArray,List.set_cons_zero,List.set_cons_succ,Qcu,Qef];rfl
                  refine pU 8 36 ?_;refine take_ (i:=10) (N:=some 38) (v:= ?_) (a':= ?_) #[true,true,true,true,true,true,true,true,true,true,true,true,true,false,false,false,false,false,false,false] rfl rfl (Qga HT_.out HW_.out (by kernel_rfl)) (fun _ _ _ h=>h) (Or.inl ⟨by rfl,?_⟩) hHeld ?_ ?_;rotate_left
                  ·
                   rintro w' ⟨s0,s1,s2,s3,s4⟩;go_simp
                   with_reducible rfl
                  rotate_left
                  ·
                   simp only [Act.put,List.setIfInBounds_toArray,List.set_cons_zero,List.set_cons_succ,Qcu,Qef];rfl
                  refine take_ (i:=13) (N:=some 41) (v:= ?_) (a':= ?_) #[true,true,true,true,true,true,true,true,true,true,true,true,true,true,false,false,false,false,false,false] rfl rfl (Qga HT_.out HW_.out (by kernel_rfl)) (fun _ _ _ h=>h) (Or.inl ⟨by rfl,?_⟩) hHeld ?_ ?_;rotate_left
                  ·
                   rintro w' ⟨s0,s1,s2,s3,s4⟩;go_simp
                   with_reducible rfl
                  rotate_left
                  ·
                   simp only [Act.put,List.setIfInBounds_toArray,List.set_cons_zero,List.set_cons_succ,Qcu,Qef];rfl
                  refine pU 14 42 ?_;refine take_ (i:=15) (N:=some 43) (v:= ?_) (a':= ?_) #[true,true,true,true,true,true,true,true,true,true,true,true,true,true,true,true,false,false,false,false] rfl rfl (Qga HT_.out HW_.out (by kernel_rfl)) (fun _ _ _ h=>h) (Or.inl ⟨by rfl,?_⟩) hHeld ?_ ?_;rotate_left
                  ·
                   rintro w' ⟨s0,s1,s2,s3,s4⟩;go_simp
                   with_reducible rfl
                  rotate_left
                  ·
                   simp only [Act.put,List.setIfInBounds_toArray,List.set_cons_zero,List.set_cons_succ,Qcu,Qef];rfl
                  refine pU 16 44 ?_;refine pU 17 45 ?_;refine pU 18 46 ?_;refine lU 19 none fun K hK=> ?_
                  refine sK ?_;refine hK.out _ _ ?_;clear hK K;refine dU ?_
                  try go_wp2
                  go_roundg k2
                  case measure=>have:=HK1.out;have:=HK2.out;omega
                  case rel=>exact ⟨(wrap64 (x19_2+1)),(y132),(.slice (some ⟨go24,0,none⟩) x126000_2.length co26),(by first|rfl|(simp;done)|(simp [*];done)),H',⟨by have:=HK1.out;have:=HK2.out;omega⟩,⟨uR HQ27⟩,⟨by (with_reducible repeat (first|refine Qk ?_ _|refine Qj ?_|refine Qi ?_ _));refine Qd8 ?_ (by have h_:=Kd.R_ne HO_126000.out BK121.out (by decide);intro e_;exact h_ (by rw [e_];rfl)) _;(with_reducible repeat (first|refine Qk ?_ _|refine Qj ?_|refine Qi ?_ _));exact BK121.out⟩,⟨by (with_reducible repeat (first|refine Qk ?_ _|refine Qj ?_|refine Qi ?_ _));refine Qd8 ?_ (by have h_:=Kd.R_ne HO_126000.out BK125.out (by decide);intro e_;exact h_ (by rw [e_];rfl)) _;(with_reducible repeat (first|refine Qk ?_ _|refine Qj ?_|refine Qi ?_ _));exact BK125.out⟩,⟨by repeat (first|(with_reducible first|exact HB.out|apply Qo|apply Qq|apply Qy|refine Q4 ?_ GB24.out|refine Q4 ?_ GE121.out|refine Q4 ?_ GE125.out)|exact HB.out)⟩⟩
                 ·
                  rw [if_neg c23] at H;exact absurd H (by simp)
                ·
                 rw [if_neg c21] at H;exact absurd H (by simp)
               ·
                rw [if_neg c20] at H;exact absurd H (by simp)
              ·
               rw [if_neg c19] at H;exact absurd H (by simp)
             ·
              rw [if_neg c18] at H;exact absurd H (by simp)
            ·
             rw [if_neg c17] at H;have c17b0:((rd (Qb2 l1 x19_2) 1)==x6_1)=false:=beq_eq_false_iff_ne.mpr c17;have c17b1:((rd (Qb2 l1 x19_2) 1) !=x6_1)=true:=bne_iff_ne.mpr c17;have H':=Aside0.mk H;clear H;have p126:0≤(x19_2:Int):=of_decide_eq_true (by first|(with_reducible assumption)|assumption);have q126:x19_2<(l1.length:Int):=of_decide_eq_true (by first|(with_reducible assumption)|assumption);obtain ⟨ad126,A126_0,c126_0,e126,hx126_0,hl126_0,hi126_0⟩:=at_L2 HR1.out x19_2 p126 q126;cases e126;replace hx126_0:=(HB.out.cell (World.block_lt_of_cell? w _ hx126_0)).trans hx126_0;have HR126_0:=Aside0.mk hi126_0;have HC126_0:=Aside0.mk hl126_0;clear hi126_0 hl126_0;replace p126:=eq_true p126;replace q126:=eq_true q126;have p127:0≤(1:Int):=(by omega)
             have q127:1<((Qb2 l1 x19_2).length:Int):=of_decide_eq_true (by first|(with_reducible assumption)|assumption);obtain ⟨ad127,e127,hx127_0⟩:=Kd.at_int HR126_0.out 1 p127 q127;cases e127
             (try simp only [show (1:Int).toNat=1 from rfl,Nat.reduceMul,Nat.reduceEqDiff,Go.Addr.add,↓reduceIte] at hx127_0)
             have qi127:(1<(Qb2 l1 x19_2).length)=True:=eq_true (by omega)
             (try rw [show ((1:Int)).toNat=1 from rfl] at hx127_0)
             replace hx127_0:=(HB.out.cell (World.block_lt_of_cell? w _ hx127_0)).trans hx127_0;replace p127:=eq_true p127;replace q127:=eq_true q127;go_wp2;go_roundg k2
             case measure=>have:=HK1.out;have:=HK2.out;omega
             case rel=>exact ⟨(wrap64 (x19_2+1)),(x126000_2),(u126000),(by first|rfl|(simp;done)|(simp [*];done)),H',⟨by have:=HK1.out;have:=HK2.out;omega⟩,⟨uR HO_126000⟩,⟨uK BK121⟩,⟨uK BK125⟩,⟨uB HB⟩⟩
           ·
            rw [if_neg c16] at H;exact absurd H (by simp)
          ·
           rw [if_neg c15] at H;exact absurd H (by simp)
         ·
          rw [if_neg c14] at H;exact absurd H (by simp)
        ·
         rw [if_neg c13] at H;have c13b0:=decide_eq_false c13;clear c13;have H':=Aside0.mk H;clear H;go_wp2;go_roundg k2
         case measure=>have:=HK1.out;have:=HK2.out;omega
         case rel=>exact ⟨(wrap64 (x6_1+1)),(x126000_2),(u126000),(by first|rfl|(simp;done)|(simp [*];done)),H',⟨by have:=HK1.out;have:=HK2.out;omega⟩,⟨uR HO_126000⟩,⟨uK BK121⟩,⟨uK BK125⟩,⟨uB HB⟩⟩
     ·
      rw [if_neg c12] at H;have c12b0:=decide_eq_false c12;clear c12;obtain rfl:=Option.some.inj H;have hnb28:=NB125_121.out;have hnc28:=NB121_125.out;have hcz29_0:=bC BK125;have hfz29_0:=Qf BK125.out 0;obtain ⟨Ao30,co30,eo30⟩:=Kd.R_slice HO_126000.out;subst eo30;have hcz31_0:=bC BK121;have hfz31_0:=Qf BK121.out 0;go_wp2;refine bodyPost_ret (results_cell_row rfl _ _ gb121 26 #[.slice Ao30 x126000_1.length co30] (0,0) _ rfl (by (with_reducible repeat (first|refine Qk ?_ _|refine Qj ?_|refine Qi ?_ _));refine Qcs (cs:= #[.slice none 0 0]) ?_ 0 _ rfl;(with_reducible repeat (first|refine Qk ?_ _|refine Qj ?_|refine Qi ?_ _));exact BK121.out) Tryz.underlying26 rfl (by kernel_rfl)) rfl ?_;exact ⟨_,by first|rfl|(simp [Qd,Qe] <;>rfl)|(simp [*,Qd,Qe] <;>rfl),by (with_reducible repeat (first|apply Kd.R_alloc|apply Kd.R_drewN|apply Kd.R_drew));exact Kd.R_mono (Kd.R_far (p:=⟨gb121,0,none⟩) (Kd.R_types HO_126000.out BK121.out (by decide)) (fun _ hk=>hk.2) (.slice Ao30 x126000_1.length co30)) (fun _ hk=>trivial),by repeat (first|(with_reducible first|exact HB.out|apply Qo|apply Qq|apply Qy|refine Q4 ?_ GE121.out|refine Q4 ?_ GE125.out)|exact HB.out)⟩
  ·
   rw [if_neg c4] at H;exact absurd H (by simp)
 ·
  rw [if_neg c3] at H;exact absurd H (by simp)
end Go.Proofs.YtkgngggppcmpfaaGreat.L
end
