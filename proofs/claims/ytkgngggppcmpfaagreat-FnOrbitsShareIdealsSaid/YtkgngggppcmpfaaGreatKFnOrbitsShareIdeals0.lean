/- Laws about the given program: the law FnOrbitsShareIdeals answers true for every input that its row lets in; no condition is added to the given statement. Contracts of the Go functions that it reaches, and the plain proof over lists. -/
import Derived.ArgAppend
import Derived.Below
import Derived.BigQuiet
import Derived.Deep.AppendLies
import Derived.Deep.CutBlock
import Derived.Deep.DeepCutAuto
import Derived.Deep.Draws
import Derived.Deep.LoopGhost
import Derived.Deep.MidRow
import Derived.Deep.OwnRows
import Derived.Deep.QuietTactic
import Derived.Deep.RegionHeld3
import Derived.Deep.RegionLaw
import Derived.DeepKeys4
import Derived.Great.BuildSlice
import Derived.KernelRfl
import Derived.Laws.BitsLemmas
import Derived.Laws.BytesArg
import Derived.Laws.CopyOwn
import Derived.Laws.IdiomCopy
import Derived.Laws.MakeOwn
import Derived.Laws.OwnMore
import Derived.Laws.Rows
import Derived.Laws.Slices
import Derived.Lib.AppendStr
import Derived.Lib.ConvBytes
import Derived.Lib.SliceRun
import Derived.Maps.AppendAt
import Derived.Maps.OwnOps
import Derived.Maps.OwnSet
import Derived.Maps.RangeWalk
import Derived.OrdersHeld
import Derived.OwnWalk
import Derived.RowKit
import Derived.RowKit3
import Derived.Shelf.Abstract
import Derived.Shelf.SlGeneric
import Derived.Shelf.SortM.Plain
import Derived.Shelf.SortM.SortNone
import Derived.Tactics
import Derived.Test.YtkgngggppcmpfaaGreatProg
import Derived.WalkKit
import Derived.WalkSpells
import Derived.WideLaws
import Derived.Test.YtkgngggppcmpfaaGreatWFnOrbitsShareIdeals0
section
namespace Go.Proofs.YtkgngggppcmpfaaGreat.X
open Go.RowKit Go.Proofs.YtkgngggppcmpfaaGreatW.PrintWords Go.Proofs.YtkgngggppcmpfaaGreatW.PrintLast Go.Proofs.YtkgngggppcmpfaaGreatW.PrintMore
set_option linter.unusedVariables false
def Fv (P : Program) (g : Nat) (lb : Array Value) (args : Array Value) (r : Value) (w : World) : Prop :=
 ∀ W, Below w.heap.size w W → Calls P g (args ++ lb) W fun e w' => e = .returned r ∧ Below W.heap.size W w'
theorem Fv.calls {P : Program} {g : Nat} {lb args : Array Value} {r : Value} {w W : World} (h : Fv P g lb args r w) (hb : Below w.heap.size w W) :
  Calls P g (args ++ lb) W fun e w' => e = .returned r ∧ Below W.heap.size W w' := h W hb
theorem Qg2 {w W w' : World} (h : Below w.heap.size w W) (h' : Below W.heap.size W w') : Below w.heap.size w w' := h.trans (h'.mono h.size)
theorem row_at {e : Nat} {w : World} {A : Option Addr} {n : Nat} {xs : List (List Int)} (h : Kd.C (Kd.slice e (Kd.int .i64)) w A n xs) (i : Nat) (hi : i < n) :
  ∃ ad A0 c0, A = some ad ∧ w.cell? (ad.add i) = some (.slice A0 (xs.getD i []).length c0) ∧ (xs.getD i []).length ≤ c0 ∧ (Kd.int .i64).C w A0 (xs.getD i []).length (xs.getD i []) := by
 obtain ⟨ad, c, ea, _, hK, hc0⟩ := Kd.C_get h ([] : List Int) (i : Int) (by omega) (by omega)
 obtain ⟨A0, c0, rfl, l0, g0⟩ := hK
 rw [Int.toNat_natCast] at hc0 l0 g0
 refine ⟨ad, A0, c0, ea, ?_, l0, g0⟩
 have hq := hc0 0 _ rfl
 have e1 : i * (Kd.slice e (Kd.int .i64)).sz + 0 = i := by show i * 1 + 0 = i; omega
 rwa [e1] at hq
def FvL (P : Program) (g : Nat) (lb : Array Value) (x : List Int) (r : Value) (w : World) : Prop :=
 ∀ W A c, Below w.heap.size w W → Kd.C (Kd.int .i64) W A x.length x → x.length ≤ c → Calls P g (#[.slice A x.length c] ++ lb) W fun e w' => e = .returned r ∧ Below W.heap.size W w'
theorem FvL.calls {P : Program} {g : Nat} {lb : Array Value} {x : List Int} {r : Value} {w W : World} {A : Option Addr} {c : Nat} (h : FvL P g lb x r w) (hb : Below w.heap.size w W) (hc : Kd.C (Kd.int .i64) W A x.length x) (hl : x.length ≤ c) :
  Calls P g (#[.slice A x.length c] ++ lb) W fun e w' => e = .returned r ∧ Below W.heap.size W w' := h W A c hb hc hl
class Ltr (w W : World) : Prop where out : Below w.heap.size w W
section
variable {α : Type} {d : Kd α} {e base n g : Nat} {ok : Nat → Prop} {w0 w W W1 : World} {v : Value} {xs : List α} {A : Option Addr} {q : Obj}
instance lr0 : Ltr w w := ⟨Below.refl _ _⟩
instance lr1 (o : Obj) [h : Ltr w W] : Ltr w (W.alloc o) := ⟨Qj h.out o⟩
instance lr2 (m : Nat) [h : Ltr w W] : Ltr w (W.drewN m) := ⟨Qi h.out m⟩
instance lr3 [h : Ltr w W] : Ltr w W.drew := ⟨Qm h.out⟩
theorem uR (h : Aside0 (d.R e w base ok v xs)) [l : Ltr w W] : d.R e W base ok v xs := Kd.R_below h.out l.out
theorem uC (h : Aside0 (d.C w A n xs)) [l : Ltr w W] : d.C W A n xs := Kd.C_below h.out l.out
theorem uD (h : Aside0 (d.C w A n xs)) (b : Aside0 (Below w.heap.size w W)) [l : Ltr W W1] : d.C W1 A n xs := Kd.C_below (Kd.C_below h.out b.out) l.out
theorem uB (h : Aside0 (Below w0.heap.size w0 w)) [l : Ltr w W] : Below w0.heap.size w0 W := h.out.trans (l.out.mono h.out.size)
theorem uK (h : Aside0 (w.heap[g]? = some q)) [l : Ltr w W] : W.heap[g]? = some q := (l.out.block g (Qt h.out)).trans h.out
theorem uS (h : Aside0 (Kd.S d e w base ok v xs)) [l : Ltr w W] : Kd.S d e W base ok v xs := Kd.S_below h.out l.out
theorem uE {c : Nat} (h : Aside0 (d.R e w base ok (.slice A n c) xs)) [l : Ltr w W] : d.C W A xs.length xs := Kd.C_below (Kd.R_reads' h.out).2.2 l.out
theorem bs {α β : Type} {a : Option α} {f : α → Option β} {r : β} (h : a.bind f = some r) : ∃ t, Aside0 (a = some t) ∧ f t = some r := by
 obtain ⟨t, h1, h2⟩ := Option.bind_eq_some_iff.mp h; exact ⟨t, ⟨h1⟩, h2⟩
end
section
variable {P : Program} {ops : Array Oper} {rest : List Oper} {o : Oper} {a : Act} {Q : Exit → Act → World → Prop} {w : World}
theorem gA {f : FuncId} {fn : Func} {aa : Array Operand} {ts : Array TypeId} (N : Option Tmp) (hf : P.funcs[f]? = some fn) (args : Array Value)
  (h : Calls P f args w fun e w' => ∃ v, e = .returned v ∧ wpList P ops Q rest (a.put N v) w')
  (hd : o.dst = N := by rfl) (hg : o.guard = none := by rfl) (hop : o.op = .call { callee := .value (.func f), args := aa, argTypes := ts } := by with_reducible rfl)
  (hname : (fn.name == "runtime.NumGoroutine") = false := by as_aux_lemma => kernel_rfl) (hb : fn.body.isSome = true := by rfl)
  (hargs : aa.map a.eval = args := by (try simp only [List.map_toArray, List.map_cons, List.map_nil]); first | done | rfl | (simp only [List.length_drop, List.length_take]; rfl)) : wpList P ops Q (o :: rest) a w :=
 Qdp N hd hg hf hname hb args hop hargs h
theorem bE {N : Tmp} {cs : Array Value} {t : TypeId}
  (h : ∀ g, g = w.heap.size → ∀ w1, w1.heap[g]? = some (.cells cs t (0, 0)) → Below w.heap.size w w1 → wpList P ops Q rest (a.put o.dst (.pointer (some ⟨g, 0, none⟩))) w1)
  (hd : o.dst = some N := by with_reducible rfl) (hg : o.guard = none := by rfl)
  (hr : (execOp a.eval o).run P w = .ok (.value (.pointer (some ⟨w.heap.size, 0, none⟩))) (w.alloc (.cells cs t (0, 0))) := by first | (go_simp; done) | (go_simp; rfl)) : wpList P ops Q (o :: rest) a w :=
 Qdf hg hd hr h
end
section
variable {P : Program} {ops : Array Oper} {Q : Exit → Act → World → Prop} {md : Region.Mode} {S : World → Prop} {ds : List Nat}
variable {v : Value} {fuel : Nat} {l : Array Bool} {a a' : Act} {w w1 : World} {oi : Oper} {T : Bool × List (List Nat × List Nat)} {B : List Nat}
theorem pU (i N : Nat) (h : Qb4 P md ops Q S ds fuel (l.setIfInBounds i true) a' w) (hT : rtab md ops = T := by exact HT_.out)
  (hi : ops[i]? = some oi := by rfl) (hN : oi.dst = some N := by rfl) (hc : anyT T l.toList (l.setIfInBounds i true).toList i = true := by kernel_rfl)
  (hy : Yields P ops oi v a := by exact Or.inl ⟨by rfl, by (intro w'; go_simp; with_reducible rfl)⟩)
  (hQ : ∀ c a w, Q (.panic c) (a.put oi.dst v) w → Q (.panic c) a w := by exact fun _ _ _ h => h) (ha : a.put (some N) v = a' := by (simp only [Act.put, List.setIfInBounds_toArray, List.set_cons_zero, List.set_cons_succ, Qcw, Qed]; rfl)) : Qb4 P md ops Q S ds (fuel + 1) l a w :=
 pure_ _ hi hN (any_of hT hc) hQ hy ha h
theorem tU (i N : Nat) (hS : S w) (h : Qb4 P md ops Q S ds fuel (l.setIfInBounds i true) a' w) (hT : rtab md ops = T := by exact HT_.out) (hW : Qer T.2 B = true := by exact HW_.out)
  (hi : ops[i]? = some oi := by rfl) (hN : oi.dst = some N := by rfl) (hc : takeW T B ds l.toList (l.setIfInBounds i true).toList i = true := by kernel_rfl)
  (hy : YieldsIf P ops S oi v a := by exact Or.inl ⟨by rfl, by (intro w' s0; go_simp; with_reducible rfl)⟩)
  (hQ : ∀ c a w, Q (.panic c) (a.put oi.dst v) w → Q (.panic c) a w := by exact fun _ _ _ h => h) (ha : a.put (some N) v = a' := by (simp only [Act.put, List.setIfInBounds_toArray, List.set_cons_zero, List.set_cons_succ, Qcw, Qed]; rfl)) : Qb4 P md ops Q S ds (fuel + 1) l a w :=
 take_ _ hi hN (Qe8 hT hW hc) hQ hy hS ha h
theorem oU (i : Nat) (N : Option Tmp) (h : ∀ K : Act → World → Prop, Shut (∀ a' w', S w' → (S w' → Qb4 P md ops Q S ds fuel (l.setIfInBounds i true) a' w') → K a' w') → if Region.wanted oi (yielded ops a.tmps) = true then Oper.wp P oi a w K Q else K (a.put N undef) w)
  (hT : rtab md ops = T := by exact HT_.out) (hi : ops[i]? = some oi := by rfl) (hN : oi.dst = N := by rfl)
  (hc : (Qf1 T.2 l.toList == [i] && l.toList.set i true == (l.setIfInBounds i true).toList) = true := by kernel_rfl) (hd : i ∉ ds := by decide) : Qb4 P md ops Q S ds (fuel + 1) l a w :=
 one_ _ hi hN (one_of hT hc) hd h
theorem lU (i : Nat) (N : Option Tmp) (h : ∀ K : Act → World → Prop, Shut (∀ a' w', Qb4 P md ops Q S ds fuel (l.setIfInBounds i true) a' w' → K a' w') → if Region.wanted oi (yielded ops a.tmps) = true then Oper.wp P oi a w K Q else K (a.put N undef) w)
  (hT : rtab md ops = T := by exact HT_.out) (hi : ops[i]? = some oi := by rfl) (hN : oi.dst = N := by rfl)
  (hc : (Qf1 T.2 l.toList == [i] && l.toList.set i true == (l.setIfInBounds i true).toList) = true := by kernel_rfl) (hd : i ∈ ds := by decide) : Qb4 P md ops Q S ds (fuel + 1) l a w :=
 last_ _ hi hN (one_of hT hc) hd h
theorem nU (N : Nat) (h : Qb4 P md ops Q S ds fuel l a' w) (ha : a.put (some N) v = a' := by (simp only [Act.put, List.setIfInBounds_toArray, List.set_cons_zero, List.set_cons_succ, Qcw, Qed]; rfl)) : Qb4 P md ops Q S ds fuel l (a.put (some N) v) w := norm_ ha h
theorem sK {K : Act → World → Prop} (h : K a w1) (hw : Region.wanted oi (yielded ops a.tmps) = true := by rfl) (hN : oi.dst = none := by rfl)
  (hrun : (execOp a.eval oi).run P w = .ok .skip w1 := by (go_simp; rfl)) : if Region.wanted oi (yielded ops a.tmps) = true then Oper.wp P oi a w K Q else K (a.put none undef) w := skip_ hw hN hrun h
theorem sU {id n : Nat} (hS : S w.drew) (h : S w.drew → Qb4 P .any ops Q S ds n (Array.replicate n false) a w.drew)
  (hm : P.follows .mixedOrders = true := by kernel_rfl) (hn : ops.size = n := by rfl) : (Code.region id ops true).wp P Q a w := start_ _ hm hn rfl hS h
theorem dU {n : Nat} (h : Q .normal a w) (hT : rtab md ops = T := by exact HT_.out) (hr : (Qf1 T.2 l.toList == []) = true := by kernel_rfl) : Qb4 P md ops Q S ds n l a w := done_ (done_of hT hr) h
end
section
variable {w W : World} {g n b : Nat} {v : Value} {t : TypeId} {f : Nat × Nat} {A : Nat} {row : Option Nat}
theorem bC (h : Aside0 (w.heap[g]? = some (.cells #[v] t (0, 0)))) : w.cell? ⟨g, 0, none⟩ = some v := (Qb6 (cs := #[v]) (t := t) h.out 0).trans rfl
end
end Go.Proofs.YtkgngggppcmpfaaGreat.X
end
section
namespace Go.Proofs.YtkgngggppcmpfaaGreat.X
open Go.RowKit Go.Proofs.YtkgngggppcmpfaaGreatW.PrintWords Go.Proofs.YtkgngggppcmpfaaGreatW.PrintLast Go.Proofs.YtkgngggppcmpfaaGreatW.PrintMore
set_option linter.unusedVariables false
section
variable {α : Type} {d : Kd α} {e base g : Nat} {ok ok' : Nat → Prop} {w W : World} {v : Value} {xs : List α} {cs : Array Value} {t : TypeId}
theorem vB {w0 w W : World} (k : Aside0 (Below w0.heap.size w0 w)) (h : Below w0.heap.size w0 W := by repeat (first | (with_reducible first | exact HB.out | apply Qj | apply Qi | apply Qm | refine Ql ?_ (Aside0.out (by assumption))) | exact HB.out)) : Below w0.heap.size w0 W := h
theorem vK {w0 w W : World} {row : Option Nat} (k : Aside0 (Qh w0 w g row)) (h : Qh w0 W g row := by repeat (first | (with_reducible first | exact HK.out | apply Qh.set_ | apply Qfl | apply Qet | apply Qfk | refine keep_far ?_ (Aside0.out (by assumption)) _) | exact HK.out)) : Qh w0 W g row := h
theorem kF {p : Prop} (h : p := by (repeat (first | (with_reducible first | refine Qq ?_ _ | refine Qs ?_ | refine Qp ?_ _) | refine Qem ?_ (Aside0.out (by assumption)) _)); exact Aside0.out (by assumption)) : p := h
theorem bP {p : Prop} (h : p := by (with_reducible repeat (first | refine Qq ?_ _ | refine Qs ?_ | refine Qp ?_ _)); refine Qec (cs := ?_) ?_ 0 _ ?_; rotate_left; (repeat (first | (with_reducible first | refine Qq ?_ _ | refine Qs ?_ | refine Qp ?_ _) | refine Qem ?_ (Aside0.out (by assumption)) _)); exact Aside0.out (by assumption); rfl) : p := h
theorem rF (h : Aside0 (d.R e w base ok v xs)) (b : Aside0 (w.heap[g]? = some (.cells cs t (0, 0)))) (u : Value) [l : Ltr (w.setCell ⟨g, 0, none⟩ u) W] (hd : ∀ q, q ∈ e :: d.E → q ≠ t := by decide) : d.R e W base ok v xs :=
 Kd.R_below (Kd.R_mono (Kd.R_far (p := ⟨g, 0, none⟩) (Kd.R_types h.out b.out hd) (fun _ hk => hk.2) u) (fun _ h_ => h_.1)) l.out
end
end Go.Proofs.YtkgngggppcmpfaaGreat.X
end
section
namespace Go.Proofs.YtkgngggppcmpfaaGreat.L
open Go.RowKit Go.Proofs.YtkgngggppcmpfaaGreatW.PrintWords Go.Proofs.YtkgngggppcmpfaaGreatW.PrintLast Go.Proofs.YtkgngggppcmpfaaGreatW.PrintMore
attribute [local go_sem] Q2 Q4 Qbd Qbe Qz Q0 Q3 Q5
set_option linter.unusedVariables false
set_option linter.unusedSimpArgs false
def errW : Option Int → Value
 |none=> .nilIface
 |some c=> .iface 0 (.int .i64 c)
theorem Qf : errW none = .nilIface := rfl
theorem Qg (c : Int) : errW (some c) = .iface 0 (.int .i64 c) := rfl
theorem Qdv : (Tryz.prog.info? 3).map (fun i => (i.zero, i.size, i.bytes)) = some (some (.int .i64 0), 1, 8) := by kernel_rfl
theorem info4 : (Tryz.prog.info? 4).map (fun i => (i.zero, i.size, i.bytes)) = some (some (.bool false), 1, 1) := by kernel_rfl
theorem Qe0 : (Tryz.prog.info? 24).map (fun i => (i.zero, i.size, i.bytes)) = some (some (.slice none 0 0), 1, 24) := by kernel_rfl
def Qu (xs : List (List Int)) (i : Int) : (List Int) := xs.getD i.toNat ([] : List Int)
theorem Qfg {w : World} {A : Option Addr} {n : Nat} {xs : List (List Int)} (h : Kd.C (Kd.slice 3 (Kd.int .i64)) w A n xs) (i : Int) (h0 : 0 ≤ i) (h1 : i < n) : ∃ ad A0 c0, A = some ad ∧ w.cell? (ad.add i.toNat) = some (.slice A0 (Qu xs i).length c0) ∧ (Qu xs i).length ≤ c0 ∧ (Kd.int .i64).C w A0 (Qu xs i).length (Qu xs i) := by
 obtain ⟨ad,c,e,_,hK,hc0⟩:=Kd.C_get h ([] :List Int) i h0 h1;have hc: ∀ j u,c[j]? =some u→w.cell? (ad.add (i.toNat*1+j))=some u:=hc0;obtain ⟨A0,c0,rfl,l0,g0⟩:=hK;exact ⟨ad,A0,c0,e,by have hq:=hc 0 _ rfl;rwa [Nat.mul_one,Nat.add_zero] at hq,l0,g0⟩
structure S26 where
 f0:(List Int)
def z26 : S26 := ⟨([] : List Int)⟩
def k26 : Kd S26 := Kd.iso (Kd.slice 3 (Kd.int .i64)) (fun x : S26 => x.f0)
theorem k26_open {w : World} {x : S26} {cs : List Value} (h : k26.K w x cs) : ∃ A0 c0, cs = [.slice A0 x.f0.length c0] ∧ x.f0.length ≤ c0 ∧ (Kd.int .i64).C w A0 x.f0.length x.f0 := by
 obtain ⟨A0,c0,rfl,l0,g0⟩:=h;exact ⟨A0,c0,rfl,l0,g0⟩
theorem k26_openM {w : World} {base : Nat} {ok : Nat → Prop} {x : S26} {cs : List Value} (h : k26.M w base ok x cs) : ∃ v0, cs = [v0] ∧ (Kd.int .i64).R 3 w base ok v0 x.f0 := by
 obtain ⟨v0,rfl,g0⟩:=h;exact ⟨v0,rfl,g0⟩
theorem k26_mk (w : World) (x : S26) {A0 : Option Addr} {c0 : Nat} (l0 : x.f0.length ≤ c0) (g0 : (Kd.int .i64).C w A0 x.f0.length x.f0) : k26.K w x [.slice A0 x.f0.length c0] := ⟨A0, c0, rfl, l0, g0⟩
theorem k26_mkM (w : World) (base : Nat) (ok : Nat → Prop) (x : S26) {v0 : Value} (g0 : (Kd.int .i64).R 3 w base ok v0 x.f0) : k26.M w base ok x [v0] := ⟨v0, rfl, g0⟩
def Qjo (xs : List S26) (i : Int) : S26 := xs.getD i.toNat z26
theorem at_T26 {w : World} {A : Option Addr} {n : Nat} {xs : List S26} (h : Kd.C k26 w A n xs) (i : Int) (h0 : 0 ≤ i) (h1 : i < n) : ∃ ad A0 c0, A = some ad ∧ w.cell? (ad.add i.toNat) = some (.slice A0 (Qjo xs i).f0.length c0) ∧ (Qjo xs i).f0.length ≤ c0 ∧ (Kd.int .i64).C w A0 (Qjo xs i).f0.length (Qjo xs i).f0 := by
 obtain ⟨ad,c,e,_,hK,hc0⟩:=Kd.C_get h z26 i h0 h1;have hc: ∀ j u,c[j]? =some u→w.cell? (ad.add (i.toNat*1+j))=some u:=hc0;obtain ⟨A0,c0,rfl,l0,g0⟩:=k26_open hK;exact ⟨ad,A0,c0,e,by have hq:=hc 0 _ rfl;rwa [Nat.mul_one,Nat.add_zero] at hq,l0,g0⟩
def rd_L5 (xs : List (List (List Int))) (i : Int) : (List (List Int)) := xs.getD i.toNat ([] : List (List Int))
theorem at_L5 {w : World} {A : Option Addr} {n : Nat} {xs : List (List (List Int))} (h : Kd.C (Kd.slice 24 (Kd.slice 3 (Kd.int .i64))) w A n xs) (i : Int) (h0 : 0 ≤ i) (h1 : i < n) : ∃ ad A0 c0, A = some ad ∧ w.cell? (ad.add i.toNat) = some (.slice A0 (rd_L5 xs i).length c0) ∧ (rd_L5 xs i).length ≤ c0 ∧ (Kd.slice 3 (Kd.int .i64)).C w A0 (rd_L5 xs i).length (rd_L5 xs i) := by
 obtain ⟨ad,c,e,_,hK,hc0⟩:=Kd.C_get h ([] :List (List Int)) i h0 h1;have hc: ∀ j u,c[j]? =some u→w.cell? (ad.add (i.toNat*1+j))=some u:=hc0;obtain ⟨A0,c0,rfl,l0,g0⟩:=hK;exact ⟨ad,A0,c0,e,by have hq:=hc 0 _ rfl;rwa [Nat.mul_one,Nat.add_zero] at hq,l0,g0⟩
def Qef.f (l0 : List Int) (l1 : List Int) : Option (Bool) := if (l0.length : Int) > 1048576 then (some true) else (some (decide ((l1.length : Int) > (wrap64 (1048576 - (l0.length : Int))))))
set_option maxHeartbeats 8000000 in
set_option maxRecDepth 100000 in
theorem Qef.calls (A0 : Option Addr) (c0 : Nat) (l0 : List Int) (A1 : Option Addr) (c1 : Nat) (l1 : List Int) (r : Bool) (w : World) (hr0 : Kd.C (Kd.int .u8) w A0 l0.length l0) (hc0 : l0.length ≤ c0) (hr1 : Kd.C (Kd.int .u8) w A1 l1.length l1) (hc1 : l1.length ≤ c1) (h : Qef.f l0 l1 = some r) :
 Calls Tryz.prog 10 #[.slice A0 l0.length c0, .slice A1 l1.length c1] w fun e w'=>e= .returned (.bool r)∧Drawn0 w w':=by
 have HR0:=Aside0.mk hr0;have HC0:=Aside0.mk hc0;clear hr0 hc0;have HR1:=Aside0.mk hr1;have HC1:=Aside0.mk hc1;clear hr1 hc1;have H:(if (l0.length:Int)>1048576 then (some true) else (some (decide ((l1.length:Int)>(wrap64 (1048576 - (l0.length:Int)))))))=some r:=h;clear h
 by_cases c3:(l0.length:Int)>1048576
 ·
  rw [if_pos c3] at H;have c3b0:=decide_eq_true c3;have c3b1:decide (1048576<l0.length)=true:=decide_eq_true (by omega);clear c3;obtain rfl:=Option.some.inj H;go_enter Tryz.func10,Tryz.ntmps10;go_wp2
  go_ret
  exact ⟨by first|rfl|(simp;done)|(simp [*];done),by repeat (first|exact Drawn0.refl _|apply Drawn0.step)⟩
 ·
  rw [if_neg c3] at H;have c3b0:=decide_eq_false c3;have c3b1:decide (1048576<l0.length)=false:=decide_eq_false (by omega);clear c3;obtain rfl:=Option.some.inj H;go_enter Tryz.func10,Tryz.ntmps10;go_wp2
  go_ret
  exact ⟨by first|rfl|(simp;done)|(simp [*];done),by repeat (first|exact Drawn0.refl _|apply Drawn0.step)⟩
def Qcs.f (a0 : Int) (a1 : Int) (a2 : Int) : Option (Bool) := if a1 ≤ a0 then (some (decide (a0 ≤ a2))) else (some false)
set_option maxHeartbeats 8000000 in
set_option maxRecDepth 100000 in
theorem Qcs.calls (a0 : Int) (a1 : Int) (a2 : Int) (r : Bool) (w : World) (h : Qcs.f a0 a1 a2 = some r) :
 Calls Tryz.prog 159 #[.int .i64 a0, .int .i64 a1, .int .i64 a2] w fun e w'=>e= .returned (.bool r)∧Drawn0 w w':=by
 have H:(if a1≤a0 then (some (decide (a0≤a2))) else (some false))=some r:=h;clear h
 by_cases c4:a1≤a0
 ·
  rw [if_pos c4] at H;have c4b0:=decide_eq_true c4;clear c4;obtain rfl:=Option.some.inj H;go_enter Tryz.func159,Tryz.ntmps159;go_wp2
  go_ret
  exact ⟨by first|rfl|(simp;done)|(simp [*];done),by repeat (first|exact Drawn0.refl _|apply Drawn0.step)⟩
 ·
  rw [if_neg c4] at H;have c4b0:=decide_eq_false c4;clear c4;obtain rfl:=Option.some.inj H;go_enter Tryz.func159,Tryz.ntmps159;go_wp2
  go_ret
  exact ⟨by first|rfl|(simp;done)|(simp [*];done),by repeat (first|exact Drawn0.refl _|apply Drawn0.step)⟩
end Go.Proofs.YtkgngggppcmpfaaGreat.L
end
section
namespace Go.Proofs.YtkgngggppcmpfaaGreat.L
open Go.RowKit Go.Proofs.YtkgngggppcmpfaaGreatW.PrintWords Go.Proofs.YtkgngggppcmpfaaGreatW.PrintLast Go.Proofs.YtkgngggppcmpfaaGreatW.PrintMore Go.Proofs.YtkgngggppcmpfaaGreat.X
attribute [local go_sem] Q2 Q4 Qbd Qbe Qz Q0 Q3 Q5
set_option linter.unusedVariables false
set_option linter.unusedSimpArgs false
def Qdu.f (l0_0 : List Int) : Option (Int) := some (l0_0.length : Int)
set_option maxHeartbeats 8000000 in
set_option maxRecDepth 100000 in
theorem Qdu.calls (A0_0 : Option Addr) (c0_0 : Nat) (l0_0 : List Int) (r : Int) (w : World) (hr0_0 : Kd.C (Kd.int .i64) w A0_0 l0_0.length l0_0) (hc0_0 : l0_0.length ≤ c0_0) (h : Qdu.f l0_0 = some r) :
 Calls Tryz.prog 244 #[.agg #[.slice A0_0 l0_0.length c0_0]] w fun e w'=>e= .returned (.int .i64 r)∧Below w.heap.size w w':=by
 have hu26:=Tryz.underlying26;have HR0_0:=Aside0.mk hr0_0;have HC0_0:=Aside0.mk hc0_0;clear hr0_0 hc0_0;have HB:=Aside0.mk (Below.refl w.heap.size w);have H:(some (l0_0.length:Int))=some r:=h;clear h;obtain rfl:=Option.some.inj H;go_enter Tryz.func244,Tryz.ntmps244;go_wp2_with (first|(refine bE (N:=1) (cs:= #[.slice A0_0 l0_0.length c0_0]) (t:=26) ?_;intro gb101 hg w2 hbox hb;have BK101:=Aside0.mk (hbox);have GW101:=Aside0.mk ((by rw [hg];exact (Qd (uB HB)):w.heap.size≤gb101));have GE101:=GW101;replace HB:=Aside0.mk (Qc (uB HB) hb);clear hb hbox hg;have hcz3_0:=bC BK101;have hfz3_0:=Qe BK101.out 0))
 go_ret
 exact ⟨by first|rfl|(simp [Qf,Qg] <;>rfl)|(simp [*,Qf,Qg] <;>rfl),(vB HB)⟩
end Go.Proofs.YtkgngggppcmpfaaGreat.L
end
section
namespace Go.Proofs.YtkgngggppcmpfaaGreat.L
open Go.RowKit Go.Proofs.YtkgngggppcmpfaaGreatW.PrintWords Go.Proofs.YtkgngggppcmpfaaGreatW.PrintLast Go.Proofs.YtkgngggppcmpfaaGreatW.PrintMore
attribute [local go_sem] Q2 Q4 Qbd Qbe Qz Q0 Q3 Q5
set_option linter.unusedVariables false
set_option linter.unusedSimpArgs false
def Qe7.f (a0 : Int) (a1 : Int) : Option (Bool) := if 0 ≤ a1 then (some ((Go.bits .and .i64 (shr .i64 a0 a1) 1) == 1)) else (none)
set_option maxHeartbeats 8000000 in
set_option maxRecDepth 100000 in
theorem Qe7.calls (a0 : Int) (a1 : Int) (r : Bool) (w : World) (h : Qe7.f a0 a1 = some r) :
 Calls Tryz.prog 294 #[.int .i64 a0, .int .i64 a1] w fun e w'=>e= .returned (.bool r)∧Drawn0 w w':=by
 have H:(if 0≤a1 then (some ((Go.bits .and .i64 (shr .i64 a0 a1) 1)==1)) else (none))=some r:=h;clear h
 by_cases c3:0≤a1
 ·
  rw [if_pos c3] at H;have c3b0:=eq_true c3;have c3b1:=decide_eq_true c3;clear c3;obtain ⟨ji4,hji4⟩: ∃ j_:Int,(shr .i64 a0 a1)=j_:=⟨_,rfl⟩
  replace H:(some ((Go.bits .and .i64 (ji4) 1)==1))=some r:=by first|(rw [hji4] at H;exact H)|(simp only [hji4] at H ⊢;exact H)
  have hji4_:(a0 / 2 ^ min a1.toNat 64)=ji4:=hji4;have hji4z:a1≤64→(a0 / 2 ^ a1.toNat)=ji4:=Qhz hji4;obtain rfl:=Option.some.inj H;go_enter Tryz.func294,Tryz.ntmps294;go_wp2
  go_ret
  exact ⟨by first|rfl|(simp;done)|(simp only [←hji4] <;>(first|rfl|simp))|(simp [*];done),by repeat (first|exact Drawn0.refl _|apply Drawn0.step)⟩
 ·
  rw [if_neg c3] at H;exact absurd H (by simp)
end Go.Proofs.YtkgngggppcmpfaaGreat.L
end
section
namespace Go.Proofs.YtkgngggppcmpfaaGreat.L
open Go.RowKit Go.Proofs.YtkgngggppcmpfaaGreatW.PrintWords Go.Proofs.YtkgngggppcmpfaaGreatW.PrintLast Go.Proofs.YtkgngggppcmpfaaGreatW.PrintMore Go.Proofs.YtkgngggppcmpfaaGreat.X
attribute [local go_sem] Q2 Q4 Qbd Qbe Qz Q0 Q3 Q5
set_option linter.unusedVariables false
set_option linter.unusedSimpArgs false
def Qbw.l0 : Nat → Int → List Int → Int → Option (List Int)
 |0,_,_,_=>none
 |k+1,x0,x3,x6=>if x6<10 then ((Qe7.f x0 x6).bind fun t105=>(if t105=true then (if x3.length<17592186044416 then (Qbw.l0 k x0 (x3++ [x6]) (wrap64 (x6+1))) else (none)) else (Qbw.l0 k x0 x3 (wrap64 (x6+1))))) else (some x3)
def Qbw.f (k : Nat) (a0 : Int) : Option (List Int) := Qbw.l0 k a0 (([] : List Int)) 0
theorem Qbw.mono_l : ∀ k, (∀ y0 y1 y2, LeO (Qbw.l0 k y0 y1 y2) (Qbw.l0 (k + 1) y0 y1 y2))
 |0=>fun _ _ _ r h=>by simp [Qbw.l0] at h
 |k+1=>by
  have ih0:=Qbw.mono_l k
  ·
   intro y0 y1 y2;unfold Qbw.l0
   repeat' first
   |(with_reducible exact ih0 _ _ _)
   |(with_reducible exact LeO.refl _)
   |(with_reducible exact LeO.none _)
   |(with_reducible refine LeO.ite ?_ ?_)
   |(with_reducible refine LeO.bind ?_ (fun _=> ?_))
   |exact ih0 _ _ _
   |exact LeO.none _
   |refine LeO.ite ?_ ?_
   |refine LeO.bind ?_ (fun _=> ?_)
theorem Qbw.mono : ∀ a0 k, LeO (Qbw.f k a0) (Qbw.f (k + 1) a0) := by
 intro a0 k;have ih0:=Qbw.mono_l k;unfold Qbw.f
 repeat' (with_reducible first|apply ih0|exact LeO.refl _|exact LeO.none _|refine LeO.ite ?_ ?_|refine LeO.bind ?_ (fun _=> ?_))
set_option maxHeartbeats 8000000 in
set_option maxRecDepth 100000 in
theorem Qbw.calls (k : Nat) (a0 : Int) (r : List Int) (w : World) (h : Qbw.f k a0 = some r) :
 Calls Tryz.prog 277 #[.int .i64 a0] w fun e w'=> ∃ v0_:Value,e= .returned (v0_)∧Kd.R (Kd.int .i64) 3 w' w.heap.size (fun _=>True) v0_ r∧Below w.heap.size w w':=by
 have HB:=Aside0.mk (Below.refl w.heap.size w);have H:(Qbw.l0 k a0 (([] :List Int)) 0)=some r:=h;clear h;obtain ⟨y102,hy102⟩: ∃ y_:List Int,y_=(([] :List Int)):=⟨_,rfl⟩
 replace H:(Qbw.l0 k a0 y102 0)=some r:=by first|(rw [hy102];with_reducible exact H)|(have H2_:=(Option.bind_some _ _).symm.trans H;rw [hy102];with_reducible exact H2_)|(have H2_:=(Option.bind_some _ _).symm.trans H;with_reducible exact H2_)|with_reducible exact H|(rw [hy102];exact H)|exact H
 have Ny102:=Aside0.mk hy102;clear hy102;have H':=Aside0.mk H;clear H;go_enter Tryz.func277,Tryz.ntmps277;go_wp2_with (first|((with_reducible refine Qbl (N:=5) rfl ?_);refine Kd.R_lit (Kd.int .i64) _ 3 ?hg (N:=5) ?hd (xs:=([] :List Int)) (inner:= []) (ok:=fun _=>True) (okp:=fun _=>True) ?hr ?hp (fun _ hk=>hk) trivial (Below.refl _ _) (Nat.le_refl _) (by simp) ?_;(case hd=>rfl);(case hg=>rfl);(case hr=>first|(go_simp;done)|(go_simp;rfl));(case hp=>exact (Reps.none _ _));intro v103 w2 ho3 hb hg_ hnew_;clear hg_ hnew_;(first|rw [←Ny102.out] at ho3|(simp only [Int.reduceToNat] at ho3;rw [←Ny102.out] at ho3));have HO104:=Aside0.mk (Kd.R_lower ho3 (Qd (uB HB)));replace HB:=Aside0.mk (Qc (uB HB) hb);clear hb ho3))
 go_loopg [3,6] k (fun kq v3 v6 w'=> ∃ (x3_1:List Int) (x6_1:Int),v6= .int .i64 x6_1∧Aside0 (Qbw.l0 kq a0 x3_1 x6_1=some r)∧Aside0 (kq≤k)∧Aside0 (Kd.R (Kd.int .i64) 3 w' w.heap.size (fun _=>True) v3 x3_1)∧Aside0 (Below w.heap.size w w'))
 case atStart=>exact ⟨(y102),(0),(by first|rfl|(simp;done)|(simp [*];done)),H',⟨Nat.le_refl _⟩,⟨uR HO104⟩,⟨uB HB⟩⟩
 case round=>
  clear H'
  skip
  obtain ⟨x3_1,x6_1,rfl,HA,HK1,HO_3,HB⟩:=hrel;cases gk with
  |zero=>exact absurd HA.out (by simp [Qbw.l0])
  |succ k1=>
   have H:=HA.out;clear HA;simp only [Qbw.l0] at H
   by_cases c4:x6_1<10
   ·
    rw [if_pos c4] at H;have c4b0:=decide_eq_true c4;clear c4;obtain ⟨t105,A5,H⟩:=bs H;(try dsimp only at H)
    by_cases c6:t105=true
    ·
     subst c6;rw [if_pos rfl] at H
     by_cases c7:x3_1.length<17592186044416
     ·
      rw [if_pos c7] at H;have LMc7:=Aside0.mk c7;clear c7;obtain ⟨y106,hy106⟩: ∃ y_:List Int,y_=(x3_1++ [x6_1]):=⟨_,rfl⟩
      replace H:(Qbw.l0 k1 a0 y106 (wrap64 (x6_1+1)))=some r:=by first|(rw [hy106];with_reducible exact H)|(have H2_:=(Option.bind_some _ _).symm.trans H;rw [hy106];with_reducible exact H2_)|(have H2_:=(Option.bind_some _ _).symm.trans H;with_reducible exact H2_)|with_reducible exact H|(rw [hy106];exact H)|exact H
      have Ny106:=Aside0.mk hy106;clear hy106;have H':=Aside0.mk H;clear H;go_wp2_with (first|(refine gA (some 11) Tryz.func294 #[.int .i64 a0, .int .i64 x6_1] ?_;(with_reducible refine (Qe7.calls a0 x6_1 true _ A5.out).mono ?_);rintro e w' ⟨rfl,⟨nd,rfl⟩⟩;refine ⟨_,rfl,?_⟩)|((with_reducible refine Qb5 (b:= .append) (xs:= #[.tmp 12, .tmp 14]) rfl ?_);at_builtin;refine Kd.R_append (Kd.int .i64) (w0:=w) w.heap.size rfl (.tmp 12) (.tmp 14) 24 3 (.int .i64 0) 8 rfl Tryz.underlying24 Qdv rfl (by decide) (by omega) u3 x3_1 x6_1 [.int .i64 x6_1] (fun _=>True) (fun _=>False) rfl rfl ?aP (fun _ hk=>hk.elim) ?aF ?aO ?aB ?aS ?aL ?_;(case aP=>exact rfl);(case aB=>exact (uB HB));(case aF=>exact (fun _ _=>trivial));(case aO=>exact (uR HO_3));(case aS=>exact (Qd (uB HB)));(case aL=>have:=LMc7.out;omega);intro v107 w8 ho hb hg hat;rw [←Ny106.out] at ho;replace HB:=Aside0.mk (hb);have HO108:=Aside0.mk (ho);clear HO_3;clear ho hb hg hat));go_roundg k1
      case measure=>have:=HK1.out;omega
      case rel=>exact ⟨(y106),(wrap64 (x6_1+1)),(by first|rfl|(simp;done)|(simp [*];done)),H',⟨by have:=HK1.out;omega⟩,⟨uR HO108⟩,⟨uB HB⟩⟩
     ·
      rw [if_neg c7] at H;exact absurd H (by simp)
    ·
     replace c6:=Bool.eq_false_iff.mpr c6;subst c6;rw [if_neg (show ¬ (false=true) by decide)] at H;have H':=Aside0.mk H;clear H;go_wp2_with (first|(refine gA (some 11) Tryz.func294 #[.int .i64 a0, .int .i64 x6_1] ?_;(with_reducible refine (Qe7.calls a0 x6_1 false _ A5.out).mono ?_);rintro e w' ⟨rfl,⟨nd,rfl⟩⟩;refine ⟨_,rfl,?_⟩));go_roundg k1
     case measure=>have:=HK1.out;omega
     case rel=>exact ⟨(x3_1),(wrap64 (x6_1+1)),(by first|rfl|(simp;done)|(simp [*];done)),H',⟨by have:=HK1.out;omega⟩,⟨uR HO_3⟩,⟨uB HB⟩⟩
   ·
    rw [if_neg c4] at H;have c4b0:=decide_eq_false c4;clear c4;obtain rfl:=Option.some.inj H;go_wp2
    go_ret
    exact ⟨_,by first|rfl|(simp [Qf,Qg] <;>rfl)|(simp [*,Qf,Qg] <;>rfl),uR HO_3,uB HB⟩
mutual
def Qy.l0 : Nat → List Int → Int → Int → List Int → Option (Bool)
 |0,_,_,_,_=>none
 |k+1,x12,x13,x14,x110000=>if x14<x13 then (if 0≤x14 then (if x14<(x12.length:Int) then ((Qcs.f (rd x12 x14) 0 (wrap64 ((shl .i64 1 x14) - 1))).bind fun t113=>(if t113=true then ((Qbw.f k (rd x12 x14)).bind fun t114=>(Qy.l1 k (rd x12 x14) x12 x13 x14 t114 (t114.length:Int) 0 x110000)) else (some false))) else (none)) else (none)) else (some true)
def Qy.l1 : Nat → Int → List Int → Int → Int → List Int → Int → Int → List Int → Option (Bool)
 |0,_,_,_,_,_,_,_,_=>none
 |k+1,x4,x12,x13,x14,x26,x27,x28,x110000=>if x28<x27 then (if 0≤x28 then (if x28<(x26.length:Int) then (if 0≤(rd x26 x28) then (if (rd x26 x28)<(x110000.length:Int) then (if (Go.bits .andNot .i64 (rd x110000 (rd x26 x28)) x4)=0 then (Qy.l1 k x4 x12 x13 x14 x26 x27 (wrap64 (x28+1)) x110000) else (some false)) else (none)) else (none)) else (none)) else (none)) else (Qy.l0 k x12 x13 (wrap64 (x14+1)) x110000)
end
def Qy.f (k : Nat) (l0_0 : List Int) : Option (Bool) := (Qdu.f l0_0).bind fun t110 => ((Qcs.f t110 1 10).bind fun t111 => (if t111 = true then (Qy.l0 k l0_0 (l0_0.length : Int) 0 l0_0) else (some false)))
theorem Qy.mono_l : ∀ k, (∀ y0 y1 y2 y3, LeO (Qy.l0 k y0 y1 y2 y3) (Qy.l0 (k + 1) y0 y1 y2 y3)) ∧ (∀ y0 y1 y2 y3 y4 y5 y6 y7, LeO (Qy.l1 k y0 y1 y2 y3 y4 y5 y6 y7) (Qy.l1 (k + 1) y0 y1 y2 y3 y4 y5 y6 y7))
 |0=>⟨fun _ _ _ _ r h=>by simp [Qy.l0] at h,fun _ _ _ _ _ _ _ _ r h=>by simp [Qy.l1] at h⟩
 |k+1=>by
  obtain ⟨ih0,ih1⟩:=Qy.mono_l k;refine ⟨?_,?_⟩
  all_goals
   intros
   first|unfold Qy.l0|unfold Qy.l1
   repeat' (with_reducible first|apply ih0|apply ih1|apply Qbw.mono|exact LeO.refl _|exact LeO.none _|refine LeO.ite ?_ ?_|refine LeO.bind ?_ (fun _=> ?_))
theorem Qy.mono : ∀ a0 k, LeO (Qy.f k a0) (Qy.f (k + 1) a0) := by
 intro a0 k;obtain ⟨ih0,ih1⟩:=Qy.mono_l k;unfold Qy.f
 repeat' (with_reducible first|apply ih0|apply ih1|apply Qbw.mono|exact LeO.refl _|exact LeO.none _|refine LeO.ite ?_ ?_|refine LeO.bind ?_ (fun _=> ?_))
set_option maxHeartbeats 8000000 in
set_option maxRecDepth 100000 in
theorem Qy.calls (k : Nat) (A0_0 : Option Addr) (c0_0 : Nat) (l0_0 : List Int) (r : Bool) (w : World) (hr0_0 : Kd.C (Kd.int .i64) w A0_0 l0_0.length l0_0) (hc0_0 : l0_0.length ≤ c0_0) (h : Qy.f k l0_0 = some r) :
 Calls Tryz.prog 178 #[.agg #[.slice A0_0 l0_0.length c0_0]] w fun e w'=>e= .returned (.bool r)∧Below w.heap.size w w':=by
 have hu26:=Tryz.underlying26;have HR0_0:=Aside0.mk hr0_0;have HC0_0:=Aside0.mk hc0_0;clear hr0_0 hc0_0;have HB:=Aside0.mk (Below.refl w.heap.size w);have H:((Qdu.f l0_0).bind fun t110=>((Qcs.f t110 1 10).bind fun t111=>(if t111=true then (Qy.l0 k l0_0 (l0_0.length:Int) 0 l0_0) else (some false))))=some r:=h;clear h;obtain ⟨t110,A2,H⟩:=bs H;(try dsimp only at H)
 obtain ⟨t111,A3,H⟩:=bs H;(try dsimp only at H)
 by_cases c4:t111=true
 ·
  subst c4;rw [if_pos rfl] at H;have H':=Aside0.mk H;clear H;go_enter Tryz.func178,Tryz.ntmps178;go_wp2_with (first|(refine bE (N:=1) (cs:= #[.slice A0_0 l0_0.length c0_0]) (t:=26) ?_;intro gb109 hg w5 hbox hb;have BK109:=Aside0.mk (hbox);have GW109:=Aside0.mk ((by rw [hg];exact (Qd (uB HB)):w.heap.size≤gb109));have GE109:=GW109;replace HB:=Aside0.mk (Qc (uB HB) hb);clear hb hbox hg;have hcz6_0:=bC BK109;have hfz6_0:=Qe BK109.out 0)|(refine gA (some 8) Tryz.func244 #[.agg #[.slice A0_0 l0_0.length c0_0]] ?_;(with_reducible refine (Qdu.calls _ _ l0_0 t110 _ (uD HR0_0 HB) HC0_0.out A2.out).mono ?_);rintro e w7 ⟨rfl,hb⟩;refine ⟨_,rfl,?_⟩;replace BK109:=Aside0.mk (Qb (uK BK109) hb);replace HB:=Aside0.mk (Qc (vB HB) hb);(try clear hb))|(refine gA (some 9) Tryz.func159 #[.int .i64 t110, .int .i64 1, .int .i64 10] ?_;(with_reducible refine (Qcs.calls t110 1 10 true _ A3.out).mono ?_);rintro e w' ⟨rfl,⟨nd,rfl⟩⟩;refine ⟨_,rfl,?_⟩;have hcz8_0:=bC BK109;have hfz8_0:=Qe BK109.out 0))
  go_loopg [14] k (fun kq v14 w'=> ∃ (x14_1:Int),v14= .int .i64 x14_1∧Aside0 (Qy.l0 kq l0_0 (l0_0.length:Int) x14_1 l0_0=some r)∧Aside0 (kq≤k)∧Aside0 (w'.heap[gb109]? =some (.cells #[(.slice A0_0 l0_0.length c0_0)] 26 (0,0)))∧Aside0 (Below w.heap.size w w'))
  case atStart=>exact ⟨(0),(by first|rfl|(simp;done)|(simp [*];done)),H',⟨Nat.le_refl _⟩,⟨uK BK109⟩,⟨(vB HB)⟩⟩
  case round=>
   clear H'
   try clear hcz6_0 hcz8_0 hfz6_0 hfz8_0
   obtain ⟨x14_1,rfl,HA,HK1,BK109,HB⟩:=hrel;cases gk with
   |zero=>exact absurd HA.out (by simp [Qy.l0])
   |succ k1=>
    have H:=HA.out;clear HA;simp only [Qy.l0] at H
    by_cases c9:x14_1<(l0_0.length:Int)
    ·
     rw [if_pos c9] at H;have c9b0:=decide_eq_true c9;clear c9
     by_cases c10:0≤x14_1
     ·
      rw [if_pos c10] at H;have c10b0:=decide_eq_true c10;clear c10
      by_cases c11:x14_1<(l0_0.length:Int)
      ·
       rw [if_pos c11] at H;have c11b0:=decide_eq_true c11;clear c11;have c12b0:=eq_true (of_decide_eq_true (by first|(with_reducible assumption)|assumption):0≤x14_1);obtain ⟨ji13,hji13⟩: ∃ j_:Int,(shl .i64 1 x14_1)=j_:=⟨_,rfl⟩
       replace H:((Qcs.f (rd l0_0 x14_1) 0 (wrap64 ((ji13) - 1))).bind fun t113=>(if t113=true then ((Qbw.f k1 (rd l0_0 x14_1)).bind fun t114=>(Qy.l1 k1 (rd l0_0 x14_1) l0_0 (l0_0.length:Int) x14_1 t114 (t114.length:Int) 0 l0_0)) else (some false)))=some r:=by first|(rw [hji13] at H;exact H)|(simp only [hji13] at H ⊢;exact H)
       have hji13_:(IntKind.i64.wrap (1*2 ^ min x14_1.toNat 64))=ji13:=hji13;have hji13z:x14_1≤64→(IntKind.i64.wrap (1*2 ^ x14_1.toNat))=ji13:=Qd2 hji13;have hji13u:(IntKind.i64.wrap (2 ^ min x14_1.toNat 64))=ji13:=by have h_:=hji13_;rw [Int.one_mul] at h_;exact h_
       have hji13v:x14_1≤64→(IntKind.i64.wrap (2 ^ x14_1.toNat))=ji13:=fun hle_=>by have h_:=hji13z hle_;rw [Int.one_mul] at h_;exact h_
       have hji13y:(wrap64 (1*2 ^ min x14_1.toNat 64))=ji13:=(Qcw _).symm.trans hji13_;have hji13x:x14_1≤64→(wrap64 (1*2 ^ x14_1.toNat))=ji13:=fun h_=>(Qcw _).symm.trans (hji13z h_)
       obtain ⟨t113,A14,H⟩:=bs H;(try dsimp only at H)
       by_cases c15:t113=true
       ·
        subst c15;rw [if_pos rfl] at H;obtain ⟨t114,A16,H⟩:=bs H;(try dsimp only at H)
        have H':=Aside0.mk H;clear H;have p112:0≤(x14_1:Int):=of_decide_eq_true (by first|(with_reducible assumption)|assumption);have q112:x14_1<(l0_0.length:Int):=of_decide_eq_true (by first|(with_reducible assumption)|assumption);obtain ⟨ad112,e112,hx112_0⟩:=Kd.at_int HR0_0.out x14_1 p112 q112;cases e112;replace hx112_0:=(HB.out.cell (World.block_lt_of_cell? w _ hx112_0)).trans hx112_0;replace p112:=eq_true p112;replace q112:=eq_true q112;go_wp2_with (first|((with_reducible refine Qcf (f:=159) rfl ?_);refine Qdp (some 23) rfl rfl Tryz.func159 (by kernel_rfl) rfl #[.int .i64 (rd l0_0 x14_1), .int .i64 0, .int .i64 (wrap64 ((ji13) - 1))] rfl (by (try simp only [List.map_toArray,List.map_cons,List.map_nil]);first|done|(simp only [hji13];rfl)|rfl|(simp only [List.length_drop,List.length_take];rfl)) ?_;(with_reducible refine (Qcs.calls (rd l0_0 x14_1) 0 (wrap64 ((ji13) - 1)) true _ A14.out).mono ?_);rintro e w' ⟨rfl,⟨nd,rfl⟩⟩;refine ⟨_,rfl,?_⟩)|(refine gA (some 26) Tryz.func277 #[.int .i64 (rd l0_0 x14_1)] ?_;(with_reducible refine (Qbw.calls k1 (rd l0_0 x14_1) t114 _ A16.out).mono ?_);rintro e w17 ⟨v115,rfl,ho0,hb⟩;refine ⟨_,rfl,?_⟩;have HO116:=Aside0.mk (Kd.R_lower ho0 (Qd (vB HB)));replace BK109:=Aside0.mk (Qb (uK BK109) hb);replace HB:=Aside0.mk (Qc (vB HB) hb);(try clear hb ho0);obtain ⟨Ao18,co18,eo18⟩:=Kd.R_slice HO116.out;subst eo18))
        go_loopg [28] k1 (fun kq v28 w'=> ∃ (x28_2:Int),v28= .int .i64 x28_2∧Aside0 (Qy.l1 kq (rd l0_0 x14_1) l0_0 (l0_0.length:Int) x14_1 t114 (t114.length:Int) x28_2 l0_0=some r)∧Aside0 (kq≤k1)∧Aside0 (Kd.R (Kd.int .i64) 3 w' w.heap.size (fun _=>True) (.slice Ao18 t114.length co18) t114)∧Aside0 (w'.heap[gb109]? =some (.cells #[(.slice (some ad112) l0_0.length c0_0)] 26 (0,0)))∧Aside0 (Below w.heap.size w w'))
        case atStart=>exact ⟨(0),(by first|rfl|(simp;done)|(simp [*];done)),H',⟨Nat.le_refl _⟩,⟨uR HO116⟩,⟨uK BK109⟩,⟨(vB HB)⟩⟩
        case round=>
         clear H'
         try clear c9b0 c10b0 c11b0 c12b0 hx112_0 p112 q112
         obtain ⟨x28_2,rfl,HA,HK2,HO_26,BK109,HB⟩:=hrel;cases gk with
         |zero=>exact absurd HA.out (by simp [Qy.l1])
         |succ k2=>
          have H:=HA.out;clear HA;simp only [Qy.l1] at H
          by_cases c19:x28_2<(t114.length:Int)
          ·
           rw [if_pos c19] at H;have c19b0:=decide_eq_true c19;clear c19
           by_cases c20:0≤x28_2
           ·
            rw [if_pos c20] at H;have c20b0:=decide_eq_true c20;clear c20
            by_cases c21:x28_2<(t114.length:Int)
            ·
             rw [if_pos c21] at H;have c21b0:=decide_eq_true c21;clear c21
             by_cases c22:0≤(rd t114 x28_2)
             ·
              rw [if_pos c22] at H;have c22b0:=decide_eq_true c22;clear c22
              by_cases c23:(rd t114 x28_2)<(l0_0.length:Int)
              ·
               rw [if_pos c23] at H;have c23b0:=decide_eq_true c23;clear c23
               by_cases c24:(Go.bits .andNot .i64 (rd l0_0 (rd t114 x28_2)) (rd l0_0 x14_1))=0
               ·
                rw [if_pos c24] at H;have c24b0:((Go.bits .andNot .i64 (rd l0_0 (rd t114 x28_2)) (rd l0_0 x14_1))==0)=true:=beq_iff_eq.mpr c24;have c24b1:((Go.bits .andNot .i64 (rd l0_0 (rd t114 x28_2)) (rd l0_0 x14_1)) !=0)=false:=bne_eq_false_iff_eq.mpr c24;clear c24;have H':=Aside0.mk H;clear H;have p117:0≤(x28_2:Int):=of_decide_eq_true (by first|(with_reducible assumption)|assumption);have q117:x28_2<(t114.length:Int):=of_decide_eq_true (by first|(with_reducible assumption)|assumption);obtain ⟨ad117,e117,hx117_0⟩:=Kd.at_int (Kd.R_reads' HO_26.out).2.2 x28_2 p117 q117;cases e117;replace p117:=eq_true p117;replace q117:=eq_true q117;have hcz25_0:=bC BK109;have hfz25_0:=Qe BK109.out 0;have p118:0≤((rd t114 x28_2):Int):=of_decide_eq_true (by first|(with_reducible assumption)|assumption);have q118:(rd t114 x28_2)<(l0_0.length:Int):=of_decide_eq_true (by first|(with_reducible assumption)|assumption);obtain ⟨ad118,e118,hx118_0⟩:=Kd.at_int HR0_0.out (rd t114 x28_2) p118 q118;obtain rfl:ad112=ad118:=(by injection e118)
                replace hx118_0:=(HB.out.cell (World.block_lt_of_cell? w _ hx118_0)).trans hx118_0;replace p118:=eq_true p118;replace q118:=eq_true q118;go_wp2;go_roundg k2
                case measure=>have:=HK1.out;have:=HK2.out;omega
                case rel=>exact ⟨(wrap64 (x28_2+1)),(by first|rfl|(simp;done)|(simp [*];done)),H',⟨by have:=HK1.out;have:=HK2.out;omega⟩,⟨uR HO_26⟩,⟨uK BK109⟩,⟨(vB HB)⟩⟩
               ·
                rw [if_neg c24] at H;have c24b0:((Go.bits .andNot .i64 (rd l0_0 (rd t114 x28_2)) (rd l0_0 x14_1))==0)=false:=beq_eq_false_iff_ne.mpr c24;have c24b1:((Go.bits .andNot .i64 (rd l0_0 (rd t114 x28_2)) (rd l0_0 x14_1)) !=0)=true:=bne_iff_ne.mpr c24;obtain rfl:=Option.some.inj H;have p117:0≤(x28_2:Int):=of_decide_eq_true (by first|(with_reducible assumption)|assumption);have q117:x28_2<(t114.length:Int):=of_decide_eq_true (by first|(with_reducible assumption)|assumption);obtain ⟨ad117,e117,hx117_0⟩:=Kd.at_int (Kd.R_reads' HO_26.out).2.2 x28_2 p117 q117;cases e117;replace p117:=eq_true p117;replace q117:=eq_true q117;have hcz26_0:=bC BK109;have hfz26_0:=Qe BK109.out 0;have p118:0≤((rd t114 x28_2):Int):=of_decide_eq_true (by first|(with_reducible assumption)|assumption);have q118:(rd t114 x28_2)<(l0_0.length:Int):=of_decide_eq_true (by first|(with_reducible assumption)|assumption);obtain ⟨ad118,e118,hx118_0⟩:=Kd.at_int HR0_0.out (rd t114 x28_2) p118 q118;obtain rfl:ad112=ad118:=(by injection e118)
                replace hx118_0:=(HB.out.cell (World.block_lt_of_cell? w _ hx118_0)).trans hx118_0;replace p118:=eq_true p118;replace q118:=eq_true q118;go_wp2
                go_ret
                exact ⟨by first|rfl|(simp [Qf,Qg] <;>rfl)|(simp only [←hji13];first|rfl|(simp [Qf,Qg] <;>rfl))|(simp [*,Qf,Qg] <;>rfl),(vB HB)⟩
              ·
               rw [if_neg c23] at H;exact absurd H (by simp)
             ·
              rw [if_neg c22] at H;exact absurd H (by simp)
            ·
             rw [if_neg c21] at H;exact absurd H (by simp)
           ·
            rw [if_neg c20] at H;exact absurd H (by simp)
          ·
           rw [if_neg c19] at H;have c19b0:=decide_eq_false c19;clear c19;have H':=Aside0.mk H;clear H;go_wp2;go_roundg k2
           case measure=>have:=HK1.out;have:=HK2.out;omega
           case rel=>exact ⟨(wrap64 (x14_1+1)),(by first|rfl|(simp;done)|(simp [*];done)),H',⟨by have:=HK1.out;have:=HK2.out;omega⟩,⟨uK BK109⟩,⟨(vB HB)⟩⟩
       ·
        replace c15:=Bool.eq_false_iff.mpr c15;subst c15;rw [if_neg (show ¬ (false=true) by decide)] at H;obtain rfl:=Option.some.inj H;have p112:0≤(x14_1:Int):=of_decide_eq_true (by first|(with_reducible assumption)|assumption);have q112:x14_1<(l0_0.length:Int):=of_decide_eq_true (by first|(with_reducible assumption)|assumption);obtain ⟨ad112,e112,hx112_0⟩:=Kd.at_int HR0_0.out x14_1 p112 q112;cases e112;replace hx112_0:=(HB.out.cell (World.block_lt_of_cell? w _ hx112_0)).trans hx112_0;replace p112:=eq_true p112;replace q112:=eq_true q112;go_wp2_with (first|((with_reducible refine Qcf (f:=159) rfl ?_);refine Qdp (some 23) rfl rfl Tryz.func159 (by kernel_rfl) rfl #[.int .i64 (rd l0_0 x14_1), .int .i64 0, .int .i64 (wrap64 ((ji13) - 1))] rfl (by (try simp only [List.map_toArray,List.map_cons,List.map_nil]);first|done|(simp only [hji13];rfl)|rfl|(simp only [List.length_drop,List.length_take];rfl)) ?_;(with_reducible refine (Qcs.calls (rd l0_0 x14_1) 0 (wrap64 ((ji13) - 1)) false _ A14.out).mono ?_);rintro e w' ⟨rfl,⟨nd,rfl⟩⟩;refine ⟨_,rfl,?_⟩))
        go_ret
        exact ⟨by first|rfl|(simp [Qf,Qg] <;>rfl)|(simp only [←hji13];first|rfl|(simp [Qf,Qg] <;>rfl))|(simp [*,Qf,Qg] <;>rfl),(vB HB)⟩
      ·
       rw [if_neg c11] at H;exact absurd H (by simp)
     ·
      rw [if_neg c10] at H;exact absurd H (by simp)
    ·
     rw [if_neg c9] at H;have c9b0:=decide_eq_false c9;clear c9;obtain rfl:=Option.some.inj H;go_wp2
     go_ret
     exact ⟨by first|rfl|(simp [Qf,Qg] <;>rfl)|(simp [*,Qf,Qg] <;>rfl),(vB HB)⟩
 ·
  replace c4:=Bool.eq_false_iff.mpr c4;subst c4;rw [if_neg (show ¬ (false=true) by decide)] at H;obtain rfl:=Option.some.inj H;go_enter Tryz.func178,Tryz.ntmps178;go_wp2_with (first|(refine bE (N:=1) (cs:= #[.slice A0_0 l0_0.length c0_0]) (t:=26) ?_;intro gb109 hg w27 hbox hb;have BK109:=Aside0.mk (hbox);have GW109:=Aside0.mk ((by rw [hg];exact (Qd (uB HB)):w.heap.size≤gb109));have GE109:=GW109;replace HB:=Aside0.mk (Qc (uB HB) hb);clear hb hbox hg;have hcz28_0:=bC BK109;have hfz28_0:=Qe BK109.out 0)|(refine gA (some 8) Tryz.func244 #[.agg #[.slice A0_0 l0_0.length c0_0]] ?_;(with_reducible refine (Qdu.calls _ _ l0_0 t110 _ (uD HR0_0 HB) HC0_0.out A2.out).mono ?_);rintro e w29 ⟨rfl,hb⟩;refine ⟨_,rfl,?_⟩;replace BK109:=Aside0.mk (Qb (uK BK109) hb);replace HB:=Aside0.mk (Qc (vB HB) hb);(try clear hb))|(refine gA (some 9) Tryz.func159 #[.int .i64 t110, .int .i64 1, .int .i64 10] ?_;(with_reducible refine (Qcs.calls t110 1 10 false _ A3.out).mono ?_);rintro e w' ⟨rfl,⟨nd,rfl⟩⟩;refine ⟨_,rfl,?_⟩))
  go_ret
  exact ⟨by first|rfl|(simp [Qf,Qg] <;>rfl)|(simp [*,Qf,Qg] <;>rfl),(vB HB)⟩
def Qc9.f (l0_0 : List Int) : Option (Int) := (Qdu.f l0_0).bind fun t120 => (if 0 ≤ t120 then (some (wrap64 ((shl .i64 1 t120) - 1))) else (none))
set_option maxHeartbeats 8000000 in
set_option maxRecDepth 100000 in
theorem Qc9.calls (A0_0 : Option Addr) (c0_0 : Nat) (l0_0 : List Int) (r : Int) (w : World) (hr0_0 : Kd.C (Kd.int .i64) w A0_0 l0_0.length l0_0) (hc0_0 : l0_0.length ≤ c0_0) (h : Qc9.f l0_0 = some r) :
 Calls Tryz.prog 290 #[.agg #[.slice A0_0 l0_0.length c0_0]] w fun e w'=>e= .returned (.int .i64 r)∧Below w.heap.size w w':=by
 have hu26:=Tryz.underlying26;have HR0_0:=Aside0.mk hr0_0;have HC0_0:=Aside0.mk hc0_0;clear hr0_0 hc0_0;have HB:=Aside0.mk (Below.refl w.heap.size w);have H:((Qdu.f l0_0).bind fun t120=>(if 0≤t120 then (some (wrap64 ((shl .i64 1 t120) - 1))) else (none)))=some r:=h;clear h;obtain ⟨t120,A2,H⟩:=bs H;(try dsimp only at H)
 by_cases c3:0≤t120
 ·
  rw [if_pos c3] at H;have c3b0:=eq_true c3;have c3b1:=decide_eq_true c3;clear c3;obtain ⟨ji4,hji4⟩: ∃ j_:Int,(shl .i64 1 t120)=j_:=⟨_,rfl⟩
  replace H:(some (wrap64 ((ji4) - 1)))=some r:=by first|(rw [hji4] at H;exact H)|(simp only [hji4] at H ⊢;exact H)
  (try rw [hji4] at A2)
  have hji4_:(IntKind.i64.wrap (1*2 ^ min t120.toNat 64))=ji4:=hji4;have hji4z:t120≤64→(IntKind.i64.wrap (1*2 ^ t120.toNat))=ji4:=Qd2 hji4;have hji4u:(IntKind.i64.wrap (2 ^ min t120.toNat 64))=ji4:=by have h_:=hji4_;rw [Int.one_mul] at h_;exact h_
  have hji4v:t120≤64→(IntKind.i64.wrap (2 ^ t120.toNat))=ji4:=fun hle_=>by have h_:=hji4z hle_;rw [Int.one_mul] at h_;exact h_
  have hji4y:(wrap64 (1*2 ^ min t120.toNat 64))=ji4:=(Qcw _).symm.trans hji4_;have hji4x:t120≤64→(wrap64 (1*2 ^ t120.toNat))=ji4:=fun h_=>(Qcw _).symm.trans (hji4z h_)
  obtain rfl:=Option.some.inj H;go_enter Tryz.func290,Tryz.ntmps290;go_wp2_with (first|(refine bE (N:=1) (cs:= #[.slice A0_0 l0_0.length c0_0]) (t:=26) ?_;intro gb119 hg w5 hbox hb;have BK119:=Aside0.mk (hbox);have GW119:=Aside0.mk ((by rw [hg];exact (Qd (uB HB)):w.heap.size≤gb119));have GE119:=GW119;replace HB:=Aside0.mk (Qc (uB HB) hb);clear hb hbox hg;have hcz6_0:=bC BK119;have hfz6_0:=Qe BK119.out 0)|(refine gA (some 4) Tryz.func244 #[.agg #[.slice A0_0 l0_0.length c0_0]] ?_;(with_reducible refine (Qdu.calls _ _ l0_0 t120 _ (uD HR0_0 HB) HC0_0.out A2.out).mono ?_);rintro e w7 ⟨rfl,hb⟩;refine ⟨_,rfl,?_⟩;replace BK119:=Aside0.mk (Qb (uK BK119) hb);replace HB:=Aside0.mk (Qc (vB HB) hb);(try clear hb)))
  go_ret
  exact ⟨by first|rfl|(simp [Qf,Qg] <;>rfl)|(simp only [←hji4];first|rfl|(simp [Qf,Qg] <;>rfl))|(simp [*,Qf,Qg] <;>rfl),(vB HB)⟩
 ·
  rw [if_neg c3] at H;exact absurd H (by simp)
def Qdn.f (k : Nat) (l0_0 : List Int) (a1 : Int) : Option (Bool) := (Qy.f k l0_0).bind fun t122 => (if t122 = true then ((Qc9.f l0_0).bind fun t123 => ((Qcs.f a1 0 t123).bind fun t124 => (some t124))) else (some false))
theorem Qdn.mono : ∀ a0 a1 k, LeO (Qdn.f k a0 a1) (Qdn.f (k + 1) a0 a1) := by
 intro a0 a1 k;unfold Qdn.f
 repeat' (with_reducible first|apply Qy.mono|exact LeO.refl _|exact LeO.none _|refine LeO.ite ?_ ?_|refine LeO.bind ?_ (fun _=> ?_))
set_option maxHeartbeats 8000000 in
set_option maxRecDepth 100000 in
theorem Qdn.calls (k : Nat) (A0_0 : Option Addr) (c0_0 : Nat) (l0_0 : List Int) (a1 : Int) (r : Bool) (w : World) (hr0_0 : Kd.C (Kd.int .i64) w A0_0 l0_0.length l0_0) (hc0_0 : l0_0.length ≤ c0_0) (h : Qdn.f k l0_0 a1 = some r) :
 Calls Tryz.prog 197 #[.agg #[.slice A0_0 l0_0.length c0_0], .int .i64 a1] w fun e w'=>e= .returned (.bool r)∧Below w.heap.size w w':=by
 have hu26:=Tryz.underlying26;have HR0_0:=Aside0.mk hr0_0;have HC0_0:=Aside0.mk hc0_0;clear hr0_0 hc0_0;have HB:=Aside0.mk (Below.refl w.heap.size w);have H:((Qy.f k l0_0).bind fun t122=>(if t122=true then ((Qc9.f l0_0).bind fun t123=>((Qcs.f a1 0 t123).bind fun t124=>(some t124))) else (some false)))=some r:=h;clear h;obtain ⟨t122,A3,H⟩:=bs H;(try dsimp only at H)
 by_cases c4:t122=true
 ·
  subst c4;rw [if_pos rfl] at H;obtain ⟨t123,A5,H⟩:=bs H;(try dsimp only at H)
  obtain ⟨t124,A6,H⟩:=bs H;(try dsimp only at H)
  obtain rfl:=Option.some.inj H;go_enter Tryz.func197,Tryz.ntmps197;go_wp2_with (first|(refine bE (N:=2) (cs:= #[.slice A0_0 l0_0.length c0_0]) (t:=26) ?_;intro gb121 hg w7 hbox hb;have BK121:=Aside0.mk (hbox);have GW121:=Aside0.mk ((by rw [hg];exact (Qd (uB HB)):w.heap.size≤gb121));have GE121:=GW121;replace HB:=Aside0.mk (Qc (uB HB) hb);clear hb hbox hg;have hcz8_0:=bC BK121;have hfz8_0:=Qe BK121.out 0)|(refine gA (some 6) Tryz.func178 #[.agg #[.slice A0_0 l0_0.length c0_0]] ?_;(with_reducible refine (Qy.calls k _ _ l0_0 true _ (uD HR0_0 HB) HC0_0.out A3.out).mono ?_);rintro e w9 ⟨rfl,hb⟩;refine ⟨_,rfl,?_⟩;replace BK121:=Aside0.mk (Qb (uK BK121) hb);replace HB:=Aside0.mk (Qc (vB HB) hb);(try clear hb);have hcz10_0:=bC BK121;have hfz10_0:=Qe BK121.out 0)|(go_at_call 290;(with_reducible refine (Qc9.calls _ _ l0_0 t123 _ (uD HR0_0 HB) HC0_0.out A5.out).mono ?_);rintro e w11 ⟨rfl,hb⟩;replace BK121:=Aside0.mk (Qb (uK BK121) hb);replace HB:=Aside0.mk (Qc (vB HB) hb);(try clear hb))|(go_at_call 159;(with_reducible refine (Qcs.calls a1 0 t123 t124 _ A6.out).mono ?_);rintro e w' ⟨rfl,⟨nd,rfl⟩⟩))
  go_ret
  exact ⟨by first|rfl|(simp [Qf,Qg] <;>rfl)|(simp [*,Qf,Qg] <;>rfl),(vB HB)⟩
 ·
  replace c4:=Bool.eq_false_iff.mpr c4;subst c4;rw [if_neg (show ¬ (false=true) by decide)] at H;obtain rfl:=Option.some.inj H;go_enter Tryz.func197,Tryz.ntmps197;go_wp2_with (first|(refine bE (N:=2) (cs:= #[.slice A0_0 l0_0.length c0_0]) (t:=26) ?_;intro gb121 hg w12 hbox hb;have BK121:=Aside0.mk (hbox);have GW121:=Aside0.mk ((by rw [hg];exact (Qd (uB HB)):w.heap.size≤gb121));have GE121:=GW121;replace HB:=Aside0.mk (Qc (uB HB) hb);clear hb hbox hg;have hcz13_0:=bC BK121;have hfz13_0:=Qe BK121.out 0)|(refine gA (some 6) Tryz.func178 #[.agg #[.slice A0_0 l0_0.length c0_0]] ?_;(with_reducible refine (Qy.calls k _ _ l0_0 false _ (uD HR0_0 HB) HC0_0.out A3.out).mono ?_);rintro e w14 ⟨rfl,hb⟩;refine ⟨_,rfl,?_⟩;replace BK121:=Aside0.mk (Qb (uK BK121) hb);replace HB:=Aside0.mk (Qc (vB HB) hb);(try clear hb)))
  go_ret
  exact ⟨by first|rfl|(simp [Qf,Qg] <;>rfl)|(simp [*,Qf,Qg] <;>rfl),(vB HB)⟩
def Q9.l0 : Nat → Int → List Int → Int → Int → List Int → Option (Int)
 |0,_,_,_,_,_=>none
 |k+1,x5,x10,x11,x12,x126000=>if x12<x11 then (if 0≤x12 then (if x12<(x10.length:Int) then (if 0≤(rd x10 x12) then (if (rd x10 x12)<(x126000.length:Int) then (Q9.l0 k (Go.bits .or .i64 x5 (rd x126000 (rd x10 x12))) x10 x11 (wrap64 (x12+1)) x126000) else (none)) else (none)) else (none)) else (none)) else (some x5)
def Q9.f (k : Nat) (l0_0 : List Int) (a1 : Int) : Option (Int) := (Qbw.f k a1).bind fun t126 => (Q9.l0 k a1 t126 (t126.length : Int) 0 l0_0)
theorem Q9.mono_l : ∀ k, (∀ y0 y1 y2 y3 y4, LeO (Q9.l0 k y0 y1 y2 y3 y4) (Q9.l0 (k + 1) y0 y1 y2 y3 y4))
 |0=>fun _ _ _ _ _ r h=>by simp [Q9.l0] at h
 |k+1=>by
  have ih0:=Q9.mono_l k
  ·
   intro y0 y1 y2 y3 y4;unfold Q9.l0
   repeat' first
   |(with_reducible exact ih0 _ _ _ _ _)
   |(with_reducible exact Qbw.mono _ _)
   |(with_reducible exact LeO.refl _)
   |(with_reducible exact LeO.none _)
   |(with_reducible refine LeO.ite ?_ ?_)
   |(with_reducible refine LeO.bind ?_ (fun _=> ?_))
   |exact ih0 _ _ _ _ _
   |exact Qbw.mono _ _
   |exact LeO.none _
   |refine LeO.ite ?_ ?_
   |refine LeO.bind ?_ (fun _=> ?_)
theorem Q9.mono : ∀ a0 a1 k, LeO (Q9.f k a0 a1) (Q9.f (k + 1) a0 a1) := by
 intro a0 a1 k;have ih0:=Q9.mono_l k;unfold Q9.f
 repeat' (with_reducible first|apply ih0|apply Qbw.mono|exact LeO.refl _|exact LeO.none _|refine LeO.ite ?_ ?_|refine LeO.bind ?_ (fun _=> ?_))
set_option maxHeartbeats 8000000 in
set_option maxRecDepth 100000 in
theorem Q9.calls (k : Nat) (A0_0 : Option Addr) (c0_0 : Nat) (l0_0 : List Int) (a1 : Int) (r : Int) (w : World) (hr0_0 : Kd.C (Kd.int .i64) w A0_0 l0_0.length l0_0) (hc0_0 : l0_0.length ≤ c0_0) (h : Q9.f k l0_0 a1 = some r) :
 Calls Tryz.prog 283 #[.agg #[.slice A0_0 l0_0.length c0_0], .int .i64 a1] w fun e w'=>e= .returned (.int .i64 r)∧Below w.heap.size w w':=by
 have hu26:=Tryz.underlying26;have HR0_0:=Aside0.mk hr0_0;have HC0_0:=Aside0.mk hc0_0;clear hr0_0 hc0_0;have HB:=Aside0.mk (Below.refl w.heap.size w);have H:((Qbw.f k a1).bind fun t126=>(Q9.l0 k a1 t126 (t126.length:Int) 0 l0_0))=some r:=h;clear h;obtain ⟨t126,A3,H⟩:=bs H;(try dsimp only at H)
 have H':=Aside0.mk H;clear H;go_enter Tryz.func283,Tryz.ntmps283;go_wp2_with (first|(refine bE (N:=2) (cs:= #[.slice A0_0 l0_0.length c0_0]) (t:=26) ?_;intro gb125 hg w4 hbox hb;have BK125:=Aside0.mk (hbox);have GW125:=Aside0.mk ((by rw [hg];exact (Qd (uB HB)):w.heap.size≤gb125));have GE125:=GW125;replace HB:=Aside0.mk (Qc (uB HB) hb);clear hb hbox hg)|(refine gA (some 10) Tryz.func277 #[.int .i64 a1] ?_;(with_reducible refine (Qbw.calls k a1 t126 _ A3.out).mono ?_);rintro e w5 ⟨v127,rfl,ho0,hb⟩;refine ⟨_,rfl,?_⟩;have HO128:=Aside0.mk (Kd.R_lower ho0 (Qd (vB HB)));replace BK125:=Aside0.mk (Qb (uK BK125) hb);replace HB:=Aside0.mk (Qc (vB HB) hb);(try clear hb ho0);obtain ⟨Ao6,co6,eo6⟩:=Kd.R_slice HO128.out;subst eo6))
 go_loopg [5,12] k (fun kq v5 v12 w'=> ∃ (x5_1:Int) (x12_1:Int),v5= .int .i64 x5_1∧v12= .int .i64 x12_1∧Aside0 (Q9.l0 kq x5_1 t126 (t126.length:Int) x12_1 l0_0=some r)∧Aside0 (kq≤k)∧Aside0 (Kd.R (Kd.int .i64) 3 w' w.heap.size (fun _=>True) (.slice Ao6 t126.length co6) t126)∧Aside0 (w'.heap[gb125]? =some (.cells #[(.slice A0_0 l0_0.length c0_0)] 26 (0,0)))∧Aside0 (Below w.heap.size w w'))
 case atStart=>exact ⟨(a1),(0),(by first|rfl|(simp;done)|(simp [*];done)),(by first|rfl|(simp;done)|(simp [*];done)),H',⟨Nat.le_refl _⟩,⟨uR HO128⟩,⟨uK BK125⟩,⟨(vB HB)⟩⟩
 case round=>
  clear H'
  skip
  obtain ⟨x5_1,x12_1,rfl,rfl,HA,HK1,HO_10,BK125,HB⟩:=hrel;cases gk with
  |zero=>exact absurd HA.out (by simp [Q9.l0])
  |succ k1=>
   have H:=HA.out;clear HA;simp only [Q9.l0] at H
   by_cases c7:x12_1<(t126.length:Int)
   ·
    rw [if_pos c7] at H;have c7b0:=decide_eq_true c7;clear c7
    by_cases c8:0≤x12_1
    ·
     rw [if_pos c8] at H;have c8b0:=decide_eq_true c8;clear c8
     by_cases c9:x12_1<(t126.length:Int)
     ·
      rw [if_pos c9] at H;have c9b0:=decide_eq_true c9;clear c9
      by_cases c10:0≤(rd t126 x12_1)
      ·
       rw [if_pos c10] at H;have c10b0:=decide_eq_true c10;clear c10
       by_cases c11:(rd t126 x12_1)<(l0_0.length:Int)
       ·
        rw [if_pos c11] at H;have c11b0:=decide_eq_true c11;clear c11;have H':=Aside0.mk H;clear H;have p129:0≤(x12_1:Int):=of_decide_eq_true (by first|(with_reducible assumption)|assumption);have q129:x12_1<(t126.length:Int):=of_decide_eq_true (by first|(with_reducible assumption)|assumption);obtain ⟨ad129,e129,hx129_0⟩:=Kd.at_int (Kd.R_reads' HO_10.out).2.2 x12_1 p129 q129;cases e129;replace p129:=eq_true p129;replace q129:=eq_true q129;have hcz12_0:=bC BK125;have hfz12_0:=Qe BK125.out 0;have p130:0≤((rd t126 x12_1):Int):=of_decide_eq_true (by first|(with_reducible assumption)|assumption);have q130:(rd t126 x12_1)<(l0_0.length:Int):=of_decide_eq_true (by first|(with_reducible assumption)|assumption);obtain ⟨ad130,e130,hx130_0⟩:=Kd.at_int HR0_0.out (rd t126 x12_1) p130 q130;cases e130;replace hx130_0:=(HB.out.cell (World.block_lt_of_cell? w _ hx130_0)).trans hx130_0;replace p130:=eq_true p130;replace q130:=eq_true q130;go_wp2;go_roundg k1
        case measure=>have:=HK1.out;omega
        case rel=>exact ⟨(Go.bits .or .i64 x5_1 (rd l0_0 (rd t126 x12_1))),(wrap64 (x12_1+1)),(by first|rfl|(simp;done)|(simp [*];done)),(by first|rfl|(simp;done)|(simp [*];done)),H',⟨by have:=HK1.out;omega⟩,⟨uR HO_10⟩,⟨uK BK125⟩,⟨(vB HB)⟩⟩
       ·
        rw [if_neg c11] at H;exact absurd H (by simp)
      ·
       rw [if_neg c10] at H;exact absurd H (by simp)
     ·
      rw [if_neg c9] at H;exact absurd H (by simp)
    ·
     rw [if_neg c8] at H;exact absurd H (by simp)
   ·
    rw [if_neg c7] at H;have c7b0:=decide_eq_false c7;clear c7;obtain rfl:=Option.some.inj H;go_wp2
    go_ret
    exact ⟨by first|rfl|(simp [Qf,Qg] <;>rfl)|(simp [*,Qf,Qg] <;>rfl),(vB HB)⟩
def Qc0.f (k : Nat) (l0_0 : List Int) (a1 : Int) : Option (Bool) := (Qdn.f k l0_0 a1).bind fun t132 => (if t132 = true then ((Q9.f k l0_0 a1).bind fun t133 => (some (t133 == a1))) else (some false))
theorem Qc0.mono : ∀ a0 a1 k, LeO (Qc0.f k a0 a1) (Qc0.f (k + 1) a0 a1) := by
 intro a0 a1 k;unfold Qc0.f
 repeat' (with_reducible first|apply Q9.mono|apply Qdn.mono|exact LeO.refl _|exact LeO.none _|refine LeO.ite ?_ ?_|refine LeO.bind ?_ (fun _=> ?_))
set_option maxHeartbeats 8000000 in
set_option maxRecDepth 100000 in
theorem Qc0.calls (k : Nat) (A0_0 : Option Addr) (c0_0 : Nat) (l0_0 : List Int) (a1 : Int) (r : Bool) (w : World) (hr0_0 : Kd.C (Kd.int .i64) w A0_0 l0_0.length l0_0) (hc0_0 : l0_0.length ≤ c0_0) (h : Qc0.f k l0_0 a1 = some r) :
 Calls Tryz.prog 158 #[.agg #[.slice A0_0 l0_0.length c0_0], .int .i64 a1] w fun e w'=>e= .returned (.bool r)∧Below w.heap.size w w':=by
 have hu26:=Tryz.underlying26;have HR0_0:=Aside0.mk hr0_0;have HC0_0:=Aside0.mk hc0_0;clear hr0_0 hc0_0;have HB:=Aside0.mk (Below.refl w.heap.size w);have H:((Qdn.f k l0_0 a1).bind fun t132=>(if t132=true then ((Q9.f k l0_0 a1).bind fun t133=>(some (t133==a1))) else (some false)))=some r:=h;clear h;obtain ⟨t132,A3,H⟩:=bs H;(try dsimp only at H)
 by_cases c4:t132=true
 ·
  subst c4;rw [if_pos rfl] at H;obtain ⟨t133,A5,H⟩:=bs H;(try dsimp only at H)
  obtain rfl:=Option.some.inj H;go_enter Tryz.func158,Tryz.ntmps158;go_wp2_with (first|(refine bE (N:=2) (cs:= #[.slice A0_0 l0_0.length c0_0]) (t:=26) ?_;intro gb131 hg w6 hbox hb;have BK131:=Aside0.mk (hbox);have GW131:=Aside0.mk ((by rw [hg];exact (Qd (uB HB)):w.heap.size≤gb131));have GE131:=GW131;replace HB:=Aside0.mk (Qc (uB HB) hb);clear hb hbox hg;have hcz7_0:=bC BK131;have hfz7_0:=Qe BK131.out 0)|(refine gA (some 7) Tryz.func197 #[.agg #[.slice A0_0 l0_0.length c0_0], .int .i64 a1] ?_;(with_reducible refine (Qdn.calls k _ _ l0_0 a1 true _ (uD HR0_0 HB) HC0_0.out A3.out).mono ?_);rintro e w8 ⟨rfl,hb⟩;refine ⟨_,rfl,?_⟩;replace BK131:=Aside0.mk (Qb (uK BK131) hb);replace HB:=Aside0.mk (Qc (vB HB) hb);(try clear hb);have hcz9_0:=bC BK131;have hfz9_0:=Qe BK131.out 0)|(go_at_call 283;(with_reducible refine (Q9.calls k _ _ l0_0 a1 t133 _ (uD HR0_0 HB) HC0_0.out A5.out).mono ?_);rintro e w10 ⟨rfl,hb⟩;replace BK131:=Aside0.mk (Qb (uK BK131) hb);replace HB:=Aside0.mk (Qc (vB HB) hb);(try clear hb)))
  go_ret
  exact ⟨by first|rfl|(simp [Qf,Qg] <;>rfl)|(simp [*,Qf,Qg] <;>rfl),(vB HB)⟩
 ·
  replace c4:=Bool.eq_false_iff.mpr c4;subst c4;rw [if_neg (show ¬ (false=true) by decide)] at H;obtain rfl:=Option.some.inj H;go_enter Tryz.func158,Tryz.ntmps158;go_wp2_with (first|(refine bE (N:=2) (cs:= #[.slice A0_0 l0_0.length c0_0]) (t:=26) ?_;intro gb131 hg w11 hbox hb;have BK131:=Aside0.mk (hbox);have GW131:=Aside0.mk ((by rw [hg];exact (Qd (uB HB)):w.heap.size≤gb131));have GE131:=GW131;replace HB:=Aside0.mk (Qc (uB HB) hb);clear hb hbox hg;have hcz12_0:=bC BK131;have hfz12_0:=Qe BK131.out 0)|(refine gA (some 7) Tryz.func197 #[.agg #[.slice A0_0 l0_0.length c0_0], .int .i64 a1] ?_;(with_reducible refine (Qdn.calls k _ _ l0_0 a1 false _ (uD HR0_0 HB) HC0_0.out A3.out).mono ?_);rintro e w13 ⟨rfl,hb⟩;refine ⟨_,rfl,?_⟩;replace BK131:=Aside0.mk (Qb (uK BK131) hb);replace HB:=Aside0.mk (Qc (vB HB) hb);(try clear hb)))
  go_ret
  exact ⟨by first|rfl|(simp [Qf,Qg] <;>rfl)|(simp [*,Qf,Qg] <;>rfl),(vB HB)⟩
def Qdd.f (k : Nat) (l0_0 : List Int) (a1 : Int) (a2 : Int) : Option (Int) := if 0 ≤ a2 then ((Q9.f k l0_0 (Go.bits .xor .i64 a1 (shl .i64 1 a2))).bind fun t135 => (if t135 = (Go.bits .xor .i64 a1 (shl .i64 1 a2)) then (some (Go.bits .xor .i64 a1 (shl .i64 1 a2))) else (some a1))) else (none)
theorem Qdd.mono : ∀ a0 a1 a2 k, LeO (Qdd.f k a0 a1 a2) (Qdd.f (k + 1) a0 a1 a2) := by
 intro a0 a1 a2 k;unfold Qdd.f
 repeat' (with_reducible first|apply Q9.mono|exact LeO.refl _|exact LeO.none _|refine LeO.ite ?_ ?_|refine LeO.bind ?_ (fun _=> ?_))
set_option maxHeartbeats 8000000 in
set_option maxRecDepth 100000 in
theorem Qdd.calls (k : Nat) (A0_0 : Option Addr) (c0_0 : Nat) (l0_0 : List Int) (a1 : Int) (a2 : Int) (r : Int) (w : World) (hr0_0 : Kd.C (Kd.int .i64) w A0_0 l0_0.length l0_0) (hc0_0 : l0_0.length ≤ c0_0) (h : Qdd.f k l0_0 a1 a2 = some r) :
 Calls Tryz.prog 291 #[.agg #[.slice A0_0 l0_0.length c0_0], .int .i64 a1, .int .i64 a2] w fun e w'=>e= .returned (.int .i64 r)∧Below w.heap.size w w':=by
 have hu26:=Tryz.underlying26;have HR0_0:=Aside0.mk hr0_0;have HC0_0:=Aside0.mk hc0_0;clear hr0_0 hc0_0;have HB:=Aside0.mk (Below.refl w.heap.size w);have H:(if 0≤a2 then ((Q9.f k l0_0 (Go.bits .xor .i64 a1 (shl .i64 1 a2))).bind fun t135=>(if t135=(Go.bits .xor .i64 a1 (shl .i64 1 a2)) then (some (Go.bits .xor .i64 a1 (shl .i64 1 a2))) else (some a1))) else (none))=some r:=h;clear h
 by_cases c4:0≤a2
 ·
  rw [if_pos c4] at H;have c4b0:=eq_true c4;have c4b1:=decide_eq_true c4;clear c4;obtain ⟨ji5,hji5⟩: ∃ j_:Int,(shl .i64 1 a2)=j_:=⟨_,rfl⟩
  replace H:((Q9.f k l0_0 (Go.bits .xor .i64 a1 (ji5))).bind fun t135=>(if t135=(Go.bits .xor .i64 a1 (ji5)) then (some (Go.bits .xor .i64 a1 (ji5))) else (some a1)))=some r:=by first|(rw [hji5] at H;exact H)|(simp only [hji5] at H ⊢;exact H)
  have hji5_:(IntKind.i64.wrap (1*2 ^ min a2.toNat 64))=ji5:=hji5;have hji5z:a2≤64→(IntKind.i64.wrap (1*2 ^ a2.toNat))=ji5:=Qd2 hji5;have hji5u:(IntKind.i64.wrap (2 ^ min a2.toNat 64))=ji5:=by have h_:=hji5_;rw [Int.one_mul] at h_;exact h_
  have hji5v:a2≤64→(IntKind.i64.wrap (2 ^ a2.toNat))=ji5:=fun hle_=>by have h_:=hji5z hle_;rw [Int.one_mul] at h_;exact h_
  have hji5y:(wrap64 (1*2 ^ min a2.toNat 64))=ji5:=(Qcw _).symm.trans hji5_;have hji5x:a2≤64→(wrap64 (1*2 ^ a2.toNat))=ji5:=fun h_=>(Qcw _).symm.trans (hji5z h_)
  obtain ⟨t135,A6,H⟩:=bs H;(try dsimp only at H)
  by_cases c7:t135=(Go.bits .xor .i64 a1 (ji5))
  ·
   rw [if_pos c7] at H;have c7b0:(t135==(Go.bits .xor .i64 a1 (ji5)))=true:=beq_iff_eq.mpr c7;have c7b1:(t135 !=(Go.bits .xor .i64 a1 (ji5)))=false:=bne_eq_false_iff_eq.mpr c7;clear c7;obtain rfl:=Option.some.inj H;go_enter Tryz.func291,Tryz.ntmps291;go_wp2_with (first|(refine bE (N:=3) (cs:= #[.slice A0_0 l0_0.length c0_0]) (t:=26) ?_;intro gb134 hg w8 hbox hb;have BK134:=Aside0.mk (hbox);have GW134:=Aside0.mk ((by rw [hg];exact (Qd (uB HB)):w.heap.size≤gb134));have GE134:=GW134;replace HB:=Aside0.mk (Qc (uB HB) hb);clear hb hbox hg;have hcz9_0:=bC BK134;have hfz9_0:=Qe BK134.out 0)|((with_reducible refine Qcf (f:=283) rfl ?_);refine Qdp (some 14) rfl rfl Tryz.func283 (by kernel_rfl) rfl #[.agg #[.slice A0_0 l0_0.length c0_0], .int .i64 (Go.bits .xor .i64 a1 (ji5))] rfl (by (try simp only [List.map_toArray,List.map_cons,List.map_nil]);first|done|(simp only [hji5];rfl)|rfl|(simp only [List.length_drop,List.length_take];rfl)) ?_;(with_reducible refine (Q9.calls k _ _ l0_0 (Go.bits .xor .i64 a1 (ji5)) t135 _ (uD HR0_0 HB) HC0_0.out A6.out).mono ?_);rintro e w10 ⟨rfl,hb⟩;refine ⟨_,rfl,?_⟩;replace BK134:=Aside0.mk (Qb (uK BK134) hb);replace HB:=Aside0.mk (Qc (vB HB) hb);(try clear hb)))
   go_ret
   exact ⟨by first|rfl|(simp [Qf,Qg] <;>rfl)|(simp only [←hji5];first|rfl|(simp [Qf,Qg] <;>rfl))|(simp [*,Qf,Qg] <;>rfl),(vB HB)⟩
  ·
   rw [if_neg c7] at H;have c7b0:(t135==(Go.bits .xor .i64 a1 (ji5)))=false:=beq_eq_false_iff_ne.mpr c7;have c7b1:(t135 !=(Go.bits .xor .i64 a1 (ji5)))=true:=bne_iff_ne.mpr c7;obtain rfl:=Option.some.inj H;go_enter Tryz.func291,Tryz.ntmps291;go_wp2_with (first|(refine bE (N:=3) (cs:= #[.slice A0_0 l0_0.length c0_0]) (t:=26) ?_;intro gb134 hg w11 hbox hb;have BK134:=Aside0.mk (hbox);have GW134:=Aside0.mk ((by rw [hg];exact (Qd (uB HB)):w.heap.size≤gb134));have GE134:=GW134;replace HB:=Aside0.mk (Qc (uB HB) hb);clear hb hbox hg;have hcz12_0:=bC BK134;have hfz12_0:=Qe BK134.out 0)|((with_reducible refine Qcf (f:=283) rfl ?_);refine Qdp (some 14) rfl rfl Tryz.func283 (by kernel_rfl) rfl #[.agg #[.slice A0_0 l0_0.length c0_0], .int .i64 (Go.bits .xor .i64 a1 (ji5))] rfl (by (try simp only [List.map_toArray,List.map_cons,List.map_nil]);first|done|(simp only [hji5];rfl)|rfl|(simp only [List.length_drop,List.length_take];rfl)) ?_;(with_reducible refine (Q9.calls k _ _ l0_0 (Go.bits .xor .i64 a1 (ji5)) t135 _ (uD HR0_0 HB) HC0_0.out A6.out).mono ?_);rintro e w13 ⟨rfl,hb⟩;refine ⟨_,rfl,?_⟩;replace BK134:=Aside0.mk (Qb (uK BK134) hb);replace HB:=Aside0.mk (Qc (vB HB) hb);(try clear hb)))
   go_ret
   exact ⟨by first|rfl|(simp [Qf,Qg] <;>rfl)|(simp only [←hji5];first|rfl|(simp [Qf,Qg] <;>rfl))|(simp [*,Qf,Qg] <;>rfl),(vB HB)⟩
 ·
  rw [if_neg c4] at H;exact absurd H (by simp)
def Qb7.l0 : Nat → Int → Int → Int → List Int → Option (Int)
 |0,_,_,_,_=>none
 |k+1,x1,x7,x8,x137000=>if x8<x7 then ((Qdd.f k x137000 x1 x8).bind fun t138=>(Qb7.l0 k t138 x7 (wrap64 (x8+1)) x137000)) else (some x1)
def Qb7.f (k : Nat) (l0_0 : List Int) (a1 : Int) : Option (Int) := (Qdu.f l0_0).bind fun t137 => (Qb7.l0 k a1 t137 0 l0_0)
theorem Qb7.mono_l : ∀ k, (∀ y0 y1 y2 y3, LeO (Qb7.l0 k y0 y1 y2 y3) (Qb7.l0 (k + 1) y0 y1 y2 y3))
 |0=>fun _ _ _ _ r h=>by simp [Qb7.l0] at h
 |k+1=>by
  have ih0:=Qb7.mono_l k
  ·
   intro y0 y1 y2 y3;unfold Qb7.l0
   repeat' first
   |(with_reducible exact ih0 _ _ _ _)
   |(with_reducible exact Qdd.mono _ _ _ _)
   |(with_reducible exact LeO.refl _)
   |(with_reducible exact LeO.none _)
   |(with_reducible refine LeO.ite ?_ ?_)
   |(with_reducible refine LeO.bind ?_ (fun _=> ?_))
   |exact ih0 _ _ _ _
   |exact Qdd.mono _ _ _ _
   |exact LeO.none _
   |refine LeO.ite ?_ ?_
   |refine LeO.bind ?_ (fun _=> ?_)
theorem Qb7.mono : ∀ a0 a1 k, LeO (Qb7.f k a0 a1) (Qb7.f (k + 1) a0 a1) := by
 intro a0 a1 k;have ih0:=Qb7.mono_l k;unfold Qb7.f
 repeat' (with_reducible first|apply ih0|apply Qdd.mono|exact LeO.refl _|exact LeO.none _|refine LeO.ite ?_ ?_|refine LeO.bind ?_ (fun _=> ?_))
set_option maxHeartbeats 8000000 in
set_option maxRecDepth 100000 in
theorem Qb7.calls (k : Nat) (A0_0 : Option Addr) (c0_0 : Nat) (l0_0 : List Int) (a1 : Int) (r : Int) (w : World) (hr0_0 : Kd.C (Kd.int .i64) w A0_0 l0_0.length l0_0) (hc0_0 : l0_0.length ≤ c0_0) (h : Qb7.f k l0_0 a1 = some r) :
 Calls Tryz.prog 176 #[.agg #[.slice A0_0 l0_0.length c0_0], .int .i64 a1] w fun e w'=>e= .returned (.int .i64 r)∧Below w.heap.size w w':=by
 have hu26:=Tryz.underlying26;have HR0_0:=Aside0.mk hr0_0;have HC0_0:=Aside0.mk hc0_0;clear hr0_0 hc0_0;have HB:=Aside0.mk (Below.refl w.heap.size w);have H:((Qdu.f l0_0).bind fun t137=>(Qb7.l0 k a1 t137 0 l0_0))=some r:=h;clear h;obtain ⟨t137,A3,H⟩:=bs H;(try dsimp only at H)
 have H':=Aside0.mk H;clear H;go_enter Tryz.func176,Tryz.ntmps176;go_wp2_with (first|(refine bE (N:=2) (cs:= #[.slice A0_0 l0_0.length c0_0]) (t:=26) ?_;intro gb136 hg w4 hbox hb;have BK136:=Aside0.mk (hbox);have GW136:=Aside0.mk ((by rw [hg];exact (Qd (uB HB)):w.heap.size≤gb136));have GE136:=GW136;replace HB:=Aside0.mk (Qc (uB HB) hb);clear hb hbox hg;have hcz5_0:=bC BK136;have hfz5_0:=Qe BK136.out 0)|(refine gA (some 7) Tryz.func244 #[.agg #[.slice A0_0 l0_0.length c0_0]] ?_;(with_reducible refine (Qdu.calls _ _ l0_0 t137 _ (uD HR0_0 HB) HC0_0.out A3.out).mono ?_);rintro e w6 ⟨rfl,hb⟩;refine ⟨_,rfl,?_⟩;replace BK136:=Aside0.mk (Qb (uK BK136) hb);replace HB:=Aside0.mk (Qc (vB HB) hb);(try clear hb)))
 go_loopg [1,8] k (fun kq v1 v8 w'=> ∃ (x1_1:Int) (x8_1:Int),v1= .int .i64 x1_1∧v8= .int .i64 x8_1∧Aside0 (Qb7.l0 kq x1_1 t137 x8_1 l0_0=some r)∧Aside0 (kq≤k)∧Aside0 (w'.heap[gb136]? =some (.cells #[(.slice A0_0 l0_0.length c0_0)] 26 (0,0)))∧Aside0 (Below w.heap.size w w'))
 case atStart=>exact ⟨(a1),(0),(by first|rfl|(simp;done)|(simp [*];done)),(by first|rfl|(simp;done)|(simp [*];done)),H',⟨Nat.le_refl _⟩,⟨uK BK136⟩,⟨(vB HB)⟩⟩
 case round=>
  clear H'
  try clear hcz5_0 hfz5_0
  obtain ⟨x1_1,x8_1,rfl,rfl,HA,HK1,BK136,HB⟩:=hrel;cases gk with
  |zero=>exact absurd HA.out (by simp [Qb7.l0])
  |succ k1=>
   have H:=HA.out;clear HA;simp only [Qb7.l0] at H
   by_cases c7:x8_1<t137
   ·
    rw [if_pos c7] at H;have c7b0:=decide_eq_true c7;clear c7;obtain ⟨t138,A8,H⟩:=bs H;(try dsimp only at H)
    have H':=Aside0.mk H;clear H;have hcz9_0:=bC BK136;have hfz9_0:=Qe BK136.out 0;go_wp2_with (first|(refine gA (some 14) Tryz.func291 #[.agg #[.slice A0_0 l0_0.length c0_0], .int .i64 x1_1, .int .i64 x8_1] ?_;(with_reducible refine (Qdd.calls k1 _ _ l0_0 x1_1 x8_1 t138 _ (uD HR0_0 HB) HC0_0.out A8.out).mono ?_);rintro e w10 ⟨rfl,hb⟩;refine ⟨_,rfl,?_⟩;replace BK136:=Aside0.mk (Qb (uK BK136) hb);replace HB:=Aside0.mk (Qc (vB HB) hb);(try clear hb)));go_roundg k1
    case measure=>have:=HK1.out;omega
    case rel=>exact ⟨(t138),(wrap64 (x8_1+1)),(by first|rfl|(simp;done)|(simp [*];done)),(by first|rfl|(simp;done)|(simp [*];done)),H',⟨by have:=HK1.out;omega⟩,⟨uK BK136⟩,⟨(vB HB)⟩⟩
   ·
    rw [if_neg c7] at H;have c7b0:=decide_eq_false c7;clear c7;obtain rfl:=Option.some.inj H;go_wp2
    go_ret
    exact ⟨by first|rfl|(simp [Qf,Qg] <;>rfl)|(simp [*,Qf,Qg] <;>rfl),(vB HB)⟩
def Qbp.l0 : Nat → Int → Int → List Int → Int → Int → List Int → Option (Int)
 |0,_,_,_,_,_,_=>none
 |k+1,x1,x5,x9,x10,x11,x140000=>if x11<x10 then (if 0≤x11 then (if x11<(x9.length:Int) then (if 0≤(rd x9 x11) then (if (rd x9 x11)<(x140000.length:Int) then (if (Go.bits .and .i64 (rd x140000 (rd x9 x11)) x1)=0 then (Qbp.l0 k x1 (Go.bits .or .i64 x5 (shl .i64 1 (rd x9 x11))) x9 x10 (wrap64 (x11+1)) x140000) else (Qbp.l0 k x1 x5 x9 x10 (wrap64 (x11+1)) x140000)) else (none)) else (none)) else (none)) else (none)) else (some x5)
def Qbp.f (k : Nat) (l0_0 : List Int) (a1 : Int) : Option (Int) := (Qbw.f k a1).bind fun t140 => (Qbp.l0 k a1 0 t140 (t140.length : Int) 0 l0_0)
theorem Qbp.mono_l : ∀ k, (∀ y0 y1 y2 y3 y4 y5, LeO (Qbp.l0 k y0 y1 y2 y3 y4 y5) (Qbp.l0 (k + 1) y0 y1 y2 y3 y4 y5))
 |0=>fun _ _ _ _ _ _ r h=>by simp [Qbp.l0] at h
 |k+1=>by
  have ih0:=Qbp.mono_l k
  ·
   intro y0 y1 y2 y3 y4 y5;unfold Qbp.l0
   repeat' first
   |(with_reducible exact ih0 _ _ _ _ _ _)
   |(with_reducible exact Qbw.mono _ _)
   |(with_reducible exact LeO.refl _)
   |(with_reducible exact LeO.none _)
   |(with_reducible refine LeO.ite ?_ ?_)
   |(with_reducible refine LeO.bind ?_ (fun _=> ?_))
   |exact ih0 _ _ _ _ _ _
   |exact Qbw.mono _ _
   |exact LeO.none _
   |refine LeO.ite ?_ ?_
   |refine LeO.bind ?_ (fun _=> ?_)
theorem Qbp.mono : ∀ a0 a1 k, LeO (Qbp.f k a0 a1) (Qbp.f (k + 1) a0 a1) := by
 intro a0 a1 k;have ih0:=Qbp.mono_l k;unfold Qbp.f
 repeat' (with_reducible first|apply ih0|apply Qbw.mono|exact LeO.refl _|exact LeO.none _|refine LeO.ite ?_ ?_|refine LeO.bind ?_ (fun _=> ?_))
set_option maxHeartbeats 8000000 in
set_option maxRecDepth 100000 in
theorem Qbp.calls (k : Nat) (A0_0 : Option Addr) (c0_0 : Nat) (l0_0 : List Int) (a1 : Int) (r : Int) (w : World) (hr0_0 : Kd.C (Kd.int .i64) w A0_0 l0_0.length l0_0) (hc0_0 : l0_0.length ≤ c0_0) (h : Qbp.f k l0_0 a1 = some r) :
 Calls Tryz.prog 307 #[.agg #[.slice A0_0 l0_0.length c0_0], .int .i64 a1] w fun e w'=>e= .returned (.int .i64 r)∧Below w.heap.size w w':=by
 have hu26:=Tryz.underlying26;have HR0_0:=Aside0.mk hr0_0;have HC0_0:=Aside0.mk hc0_0;clear hr0_0 hc0_0;have HB:=Aside0.mk (Below.refl w.heap.size w);have H:((Qbw.f k a1).bind fun t140=>(Qbp.l0 k a1 0 t140 (t140.length:Int) 0 l0_0))=some r:=h;clear h;obtain ⟨t140,A3,H⟩:=bs H;(try dsimp only at H)
 have H':=Aside0.mk H;clear H;go_enter Tryz.func307,Tryz.ntmps307;go_wp2_with (first|(refine bE (N:=2) (cs:= #[.slice A0_0 l0_0.length c0_0]) (t:=26) ?_;intro gb139 hg w4 hbox hb;have BK139:=Aside0.mk (hbox);have GW139:=Aside0.mk ((by rw [hg];exact (Qd (uB HB)):w.heap.size≤gb139));have GE139:=GW139;replace HB:=Aside0.mk (Qc (uB HB) hb);clear hb hbox hg)|(refine gA (some 9) Tryz.func277 #[.int .i64 a1] ?_;(with_reducible refine (Qbw.calls k a1 t140 _ A3.out).mono ?_);rintro e w5 ⟨v141,rfl,ho0,hb⟩;refine ⟨_,rfl,?_⟩;have HO142:=Aside0.mk (Kd.R_lower ho0 (Qd (vB HB)));replace BK139:=Aside0.mk (Qb (uK BK139) hb);replace HB:=Aside0.mk (Qc (vB HB) hb);(try clear hb ho0);obtain ⟨Ao6,co6,eo6⟩:=Kd.R_slice HO142.out;subst eo6))
 go_loopg [5,11] k (fun kq v5 v11 w'=> ∃ (x5_1:Int) (x11_1:Int),v5= .int .i64 x5_1∧v11= .int .i64 x11_1∧Aside0 (Qbp.l0 kq a1 x5_1 t140 (t140.length:Int) x11_1 l0_0=some r)∧Aside0 (kq≤k)∧Aside0 (Kd.R (Kd.int .i64) 3 w' w.heap.size (fun _=>True) (.slice Ao6 t140.length co6) t140)∧Aside0 (w'.heap[gb139]? =some (.cells #[(.slice A0_0 l0_0.length c0_0)] 26 (0,0)))∧Aside0 (Below w.heap.size w w'))
 case atStart=>exact ⟨(0),(0),(by first|rfl|(simp;done)|(simp [*];done)),(by first|rfl|(simp;done)|(simp [*];done)),H',⟨Nat.le_refl _⟩,⟨uR HO142⟩,⟨uK BK139⟩,⟨(vB HB)⟩⟩
 case round=>
  clear H'
  skip
  obtain ⟨x5_1,x11_1,rfl,rfl,HA,HK1,HO_9,BK139,HB⟩:=hrel;cases gk with
  |zero=>exact absurd HA.out (by simp [Qbp.l0])
  |succ k1=>
   have H:=HA.out;clear HA;simp only [Qbp.l0] at H
   by_cases c7:x11_1<(t140.length:Int)
   ·
    rw [if_pos c7] at H;have c7b0:=decide_eq_true c7;clear c7
    by_cases c8:0≤x11_1
    ·
     rw [if_pos c8] at H;have c8b0:=decide_eq_true c8;clear c8
     by_cases c9:x11_1<(t140.length:Int)
     ·
      rw [if_pos c9] at H;have c9b0:=decide_eq_true c9;clear c9
      by_cases c10:0≤(rd t140 x11_1)
      ·
       rw [if_pos c10] at H;have c10b0:=decide_eq_true c10;clear c10
       by_cases c11:(rd t140 x11_1)<(l0_0.length:Int)
       ·
        rw [if_pos c11] at H;have c11b0:=decide_eq_true c11;clear c11
        by_cases c12:(Go.bits .and .i64 (rd l0_0 (rd t140 x11_1)) a1)=0
        ·
         rw [if_pos c12] at H;have c12b0:((Go.bits .and .i64 (rd l0_0 (rd t140 x11_1)) a1)==0)=true:=beq_iff_eq.mpr c12;have c12b1:((Go.bits .and .i64 (rd l0_0 (rd t140 x11_1)) a1) !=0)=false:=bne_eq_false_iff_eq.mpr c12;clear c12;have c13b0:=eq_true (of_decide_eq_true (by first|(with_reducible assumption)|assumption):0≤(rd t140 x11_1));obtain ⟨ji14,hji14⟩: ∃ j_:Int,(shl .i64 1 (rd t140 x11_1))=j_:=⟨_,rfl⟩
         replace H:(Qbp.l0 k1 a1 (Go.bits .or .i64 x5_1 (ji14)) t140 (t140.length:Int) (wrap64 (x11_1+1)) l0_0)=some r:=by first|(rw [hji14] at H;exact H)|(simp only [hji14] at H ⊢;exact H)
         have hji14_:(IntKind.i64.wrap (1*2 ^ min (rd t140 x11_1).toNat 64))=ji14:=hji14;have hji14z:(rd t140 x11_1)≤64→(IntKind.i64.wrap (1*2 ^ (rd t140 x11_1).toNat))=ji14:=Qd2 hji14;have hji14u:(IntKind.i64.wrap (2 ^ min (rd t140 x11_1).toNat 64))=ji14:=by have h_:=hji14_;rw [Int.one_mul] at h_;exact h_
         have hji14v:(rd t140 x11_1)≤64→(IntKind.i64.wrap (2 ^ (rd t140 x11_1).toNat))=ji14:=fun hle_=>by have h_:=hji14z hle_;rw [Int.one_mul] at h_;exact h_
         have hji14y:(wrap64 (1*2 ^ min (rd t140 x11_1).toNat 64))=ji14:=(Qcw _).symm.trans hji14_;have hji14x:(rd t140 x11_1)≤64→(wrap64 (1*2 ^ (rd t140 x11_1).toNat))=ji14:=fun h_=>(Qcw _).symm.trans (hji14z h_)
         have H':=Aside0.mk H;clear H;have p143:0≤(x11_1:Int):=of_decide_eq_true (by first|(with_reducible assumption)|assumption);have q143:x11_1<(t140.length:Int):=of_decide_eq_true (by first|(with_reducible assumption)|assumption);obtain ⟨ad143,e143,hx143_0⟩:=Kd.at_int (Kd.R_reads' HO_9.out).2.2 x11_1 p143 q143;cases e143;replace p143:=eq_true p143;replace q143:=eq_true q143;have hcz15_0:=bC BK139;have hfz15_0:=Qe BK139.out 0;have p144:0≤((rd t140 x11_1):Int):=of_decide_eq_true (by first|(with_reducible assumption)|assumption);have q144:(rd t140 x11_1)<(l0_0.length:Int):=of_decide_eq_true (by first|(with_reducible assumption)|assumption);obtain ⟨ad144,e144,hx144_0⟩:=Kd.at_int HR0_0.out (rd t140 x11_1) p144 q144;cases e144;replace hx144_0:=(HB.out.cell (World.block_lt_of_cell? w _ hx144_0)).trans hx144_0;replace p144:=eq_true p144;replace q144:=eq_true q144;go_wp2;go_roundg k1
         case measure=>have:=HK1.out;omega
         case rel=>exact ⟨(Go.bits .or .i64 x5_1 (ji14)),(wrap64 (x11_1+1)),(by first|rfl|(simp;done)|(simp only [←hji14] <;>(first|rfl|simp))|(simp [*];done)),(by first|rfl|(simp;done)|(simp [*];done)),H',⟨by have:=HK1.out;omega⟩,⟨uR HO_9⟩,⟨uK BK139⟩,⟨(vB HB)⟩⟩
        ·
         rw [if_neg c12] at H;have c12b0:((Go.bits .and .i64 (rd l0_0 (rd t140 x11_1)) a1)==0)=false:=beq_eq_false_iff_ne.mpr c12;have c12b1:((Go.bits .and .i64 (rd l0_0 (rd t140 x11_1)) a1) !=0)=true:=bne_iff_ne.mpr c12;have H':=Aside0.mk H;clear H;have p143:0≤(x11_1:Int):=of_decide_eq_true (by first|(with_reducible assumption)|assumption);have q143:x11_1<(t140.length:Int):=of_decide_eq_true (by first|(with_reducible assumption)|assumption);obtain ⟨ad143,e143,hx143_0⟩:=Kd.at_int (Kd.R_reads' HO_9.out).2.2 x11_1 p143 q143;cases e143;replace p143:=eq_true p143;replace q143:=eq_true q143;have hcz16_0:=bC BK139;have hfz16_0:=Qe BK139.out 0;have p144:0≤((rd t140 x11_1):Int):=of_decide_eq_true (by first|(with_reducible assumption)|assumption);have q144:(rd t140 x11_1)<(l0_0.length:Int):=of_decide_eq_true (by first|(with_reducible assumption)|assumption);obtain ⟨ad144,e144,hx144_0⟩:=Kd.at_int HR0_0.out (rd t140 x11_1) p144 q144;cases e144;replace hx144_0:=(HB.out.cell (World.block_lt_of_cell? w _ hx144_0)).trans hx144_0;replace p144:=eq_true p144;replace q144:=eq_true q144;go_wp2;go_roundg k1
         case measure=>have:=HK1.out;omega
         case rel=>exact ⟨(x5_1),(wrap64 (x11_1+1)),(by first|rfl|(simp;done)|(simp [*];done)),(by first|rfl|(simp;done)|(simp [*];done)),H',⟨by have:=HK1.out;omega⟩,⟨uR HO_9⟩,⟨uK BK139⟩,⟨(vB HB)⟩⟩
       ·
        rw [if_neg c11] at H;exact absurd H (by simp)
      ·
       rw [if_neg c10] at H;exact absurd H (by simp)
     ·
      rw [if_neg c9] at H;exact absurd H (by simp)
    ·
     rw [if_neg c8] at H;exact absurd H (by simp)
   ·
    rw [if_neg c7] at H;have c7b0:=decide_eq_false c7;clear c7;obtain rfl:=Option.some.inj H;go_wp2
    go_ret
    exact ⟨by first|rfl|(simp [Qf,Qg] <;>rfl)|(simp [*,Qf,Qg] <;>rfl),(vB HB)⟩
def Qbo.f (k : Nat) (l0_0 : List Int) (a1 : Int) : Option (Int) := (Qc9.f l0_0).bind fun t146 => ((Qbp.f k l0_0 (Go.bits .andNot .i64 t146 a1)).bind fun t147 => ((Q9.f k l0_0 t147).bind fun t148 => (some t148)))
theorem Qbo.mono : ∀ a0 a1 k, LeO (Qbo.f k a0 a1) (Qbo.f (k + 1) a0 a1) := by
 intro a0 a1 k;unfold Qbo.f
 repeat' (with_reducible first|apply Qbp.mono|apply Q9.mono|exact LeO.refl _|exact LeO.none _|refine LeO.ite ?_ ?_|refine LeO.bind ?_ (fun _=> ?_))
def Qbo.T1 : Bool × List (List Nat × List Nat) := (true, [([], []), ([], []), ([], []), ([2], [2]), ([], []), ([3, 4], [3, 4]), ([1, 5, 3], [1, 5]), ([0, 6, 6], [0, 6]), ([7, 7, 0, 1, 2, 3, 4, 5, 6, 7], [7])])
def Qbo.B1 : List Nat := [0, 0, 0, 4, 0, 28, 62, 127, 255]
theorem Qbo.tab1 : rtab .any (Qh6 Tryz.f235 1) = Qbo.T1 := by kernel_rfl
theorem Qbo.bits1 : Qer Qbo.T1.2 Qbo.B1 = true := by kernel_rfl
set_option maxHeartbeats 8000000 in
set_option maxRecDepth 100000 in
theorem Qbo.calls (k : Nat) (A0_0 : Option Addr) (c0_0 : Nat) (l0_0 : List Int) (a1 : Int) (r : Int) (w : World) (hr0_0 : Kd.C (Kd.int .i64) w A0_0 l0_0.length l0_0) (hc0_0 : l0_0.length ≤ c0_0) (h : Qbo.f k l0_0 a1 = some r) :
 Calls Tryz.prog 235 #[.agg #[.slice A0_0 l0_0.length c0_0], .int .i64 a1] w fun e w'=>e= .returned (.int .i64 r)∧Below w.heap.size w w':=by
 have hu26:=Tryz.underlying26;have HR0_0:=Aside0.mk hr0_0;have HC0_0:=Aside0.mk hc0_0;clear hr0_0 hc0_0;have HB:=Aside0.mk (Below.refl w.heap.size w);have H:((Qc9.f l0_0).bind fun t146=>((Qbp.f k l0_0 (Go.bits .andNot .i64 t146 a1)).bind fun t147=>((Q9.f k l0_0 t147).bind fun t148=>(some t148))))=some r:=h;clear h;obtain ⟨t146,A3,H⟩:=bs H;(try dsimp only at H)
 obtain ⟨t147,A4,H⟩:=bs H;(try dsimp only at H)
 obtain ⟨t148,A5,H⟩:=bs H;(try dsimp only at H)
 obtain rfl:=Option.some.inj H;go_enter Tryz.func235,Tryz.ntmps235
 try go_wp2_with (first|(refine bE (N:=2) (cs:= #[.slice A0_0 l0_0.length c0_0]) (t:=26) ?_;intro gb145 hg w6 hbox hb;have BK145:=Aside0.mk (hbox);have GW145:=Aside0.mk ((by rw [hg];exact (Qd (uB HB)):w.heap.size≤gb145));have GE145:=GW145;replace HB:=Aside0.mk (Qc (uB HB) hb);clear hb hbox hg))
 replace BK145:=Aside0.mk (Qs BK145.out);replace HB:=Aside0.mk (Qm HB.out);refine sU (n:=9) (S:=fun w'=>w'.cell? ⟨gb145,0,none⟩=some (.slice A0_0 l0_0.length c0_0)) (ds:= []) ((Qb6 BK145.out 0).trans rfl) (fun hHeld=> ?_);refine Qfe Qbo.tab1 Qbo.bits1 (fun HT_ HW_=> ?_);generalize w6.drew=w7 at BK145 HB hHeld ⊢;refine pU 4 9 ?_;refine tU 0 5 hHeld ?_;refine tU 1 6 hHeld ?_;refine tU 2 7 hHeld ?_;refine oU 3 (some 8) fun K hK=> ?_
 refine Qfv Tryz.func290 (by kernel_rfl) rfl #[.agg #[.slice A0_0 l0_0.length c0_0]] (by rfl) rfl rfl (by (try simp only [List.map_toArray,List.map_cons,List.map_nil]);first|done|rfl|(simp only [List.length_drop,List.length_take];rfl)) ?_
 with_reducible refine (Qc9.calls _ _ l0_0 t146 _ ?side1 ?side2 A3.out).mono ?_
 (case side1=>repeat (first|exact (Kd.C_below HR0_0.out HB.out)|(with_reducible refine Kd.C_alloc ?_ _)|(with_reducible refine Kd.C_drewN ?_ _)|(with_reducible refine Kd.C_drew ?_)))
 (case side2=>exact HC0_0.out)
 rintro e w8 ⟨rfl,hb⟩;refine ⟨_,rfl,?_⟩;replace BK145:=Aside0.mk (Qb (uK BK145) hb);replace HB:=Aside0.mk (Qc (vB HB) hb)
 skip
 skip
 skip
 skip
 refine hK.out _ _ ((Qb6 BK145.out 0).trans rfl) (fun hHeld=> ?_);clear hK K;refine nU 8 ?_;refine pU 5 10 ?_;refine oU 6 (some 11) fun K hK=> ?_
 refine Qfv Tryz.func307 (by kernel_rfl) rfl #[.agg #[.slice A0_0 l0_0.length c0_0], .int .i64 (Go.bits .andNot .i64 t146 a1)] (by rfl) rfl rfl (by (try simp only [List.map_toArray,List.map_cons,List.map_nil]);first|done|rfl|(simp only [List.length_drop,List.length_take];rfl)) ?_
 with_reducible refine (Qbp.calls k _ _ l0_0 (Go.bits .andNot .i64 t146 a1) t147 _ ?side1 ?side2 A4.out).mono ?_
 (case side1=>repeat (first|exact (Kd.C_below HR0_0.out HB.out)|(with_reducible refine Kd.C_alloc ?_ _)|(with_reducible refine Kd.C_drewN ?_ _)|(with_reducible refine Kd.C_drew ?_)))
 (case side2=>exact HC0_0.out)
 rintro e w9 ⟨rfl,hb⟩;refine ⟨_,rfl,?_⟩;replace BK145:=Aside0.mk (Qb (uK BK145) hb);replace HB:=Aside0.mk (Qc (vB HB) hb)
 skip
 skip
 skip
 skip
 refine hK.out _ _ ((Qb6 BK145.out 0).trans rfl) (fun hHeld=> ?_);clear hK K;refine nU 11 ?_;refine oU 7 (some 12) fun K hK=> ?_
 refine Qfv Tryz.func283 (by kernel_rfl) rfl #[.agg #[.slice A0_0 l0_0.length c0_0], .int .i64 t147] (by rfl) rfl rfl (by (try simp only [List.map_toArray,List.map_cons,List.map_nil]);first|done|rfl|(simp only [List.length_drop,List.length_take];rfl)) ?_
 with_reducible refine (Q9.calls k _ _ l0_0 t147 t148 _ ?side1 ?side2 A5.out).mono ?_
 (case side1=>repeat (first|exact (Kd.C_below HR0_0.out HB.out)|(with_reducible refine Kd.C_alloc ?_ _)|(with_reducible refine Kd.C_drewN ?_ _)|(with_reducible refine Kd.C_drew ?_)))
 (case side2=>exact HC0_0.out)
 rintro e w10 ⟨rfl,hb⟩;refine ⟨_,rfl,?_⟩;replace BK145:=Aside0.mk (Qb (uK BK145) hb);replace HB:=Aside0.mk (Qc (vB HB) hb)
 skip
 skip
 skip
 skip
 refine hK.out _ _ ((Qb6 BK145.out 0).trans rfl) (fun hHeld=> ?_);clear hK K;refine nU 12 ?_;refine pU 8 4 ?_;refine dU ?_
 try go_wp2
 go_ret
 exact ⟨by first|rfl|(simp [Qf,Qg] <;>rfl)|(simp [*,Qf,Qg] <;>rfl),(vB HB)⟩
mutual
def Qbg.l0 : Nat → Int → Int → Int → Int → List Int → Option (Int)
 |0,_,_,_,_,_=>none
 |k+1,x1,x2,x8,x9,x150000=>if x9<x8 then ((Qbo.f k x150000 x1).bind fun t150=>(Qbg.l0 k t150 x2 x8 (wrap64 (x9+1)) x150000)) else (Qbg.l1 k x1 (mx (wrap64 (-x2)) 0) 0 x150000)
def Qbg.l1 : Nat → Int → Int → Int → List Int → Option (Int)
 |0,_,_,_,_=>none
 |k+1,x1,x17,x18,x150000=>if x18<x17 then ((Qb7.f k x150000 x1).bind fun t151=>(Qbg.l1 k t151 x17 (wrap64 (x18+1)) x150000)) else (some x1)
end
def Qbg.f (k : Nat) (l0_0 : List Int) (a1 : Int) (a2 : Int) : Option (Int) := Qbg.l0 k a1 a2 (mx a2 0) 0 l0_0
theorem Qbg.mono_l : ∀ k, (∀ y0 y1 y2 y3 y4, LeO (Qbg.l0 k y0 y1 y2 y3 y4) (Qbg.l0 (k + 1) y0 y1 y2 y3 y4)) ∧ (∀ y0 y1 y2 y3, LeO (Qbg.l1 k y0 y1 y2 y3) (Qbg.l1 (k + 1) y0 y1 y2 y3))
 |0=>⟨fun _ _ _ _ _ r h=>by simp [Qbg.l0] at h,fun _ _ _ _ r h=>by simp [Qbg.l1] at h⟩
 |k+1=>by
  obtain ⟨ih0,ih1⟩:=Qbg.mono_l k;refine ⟨?_,?_⟩
  all_goals
   intros
   first|unfold Qbg.l0|unfold Qbg.l1
   repeat' (with_reducible first|apply ih0|apply ih1|apply Qb7.mono|apply Qbo.mono|exact LeO.refl _|exact LeO.none _|refine LeO.ite ?_ ?_|refine LeO.bind ?_ (fun _=> ?_))
theorem Qbg.mono : ∀ a0 a1 a2 k, LeO (Qbg.f k a0 a1 a2) (Qbg.f (k + 1) a0 a1 a2) := by
 intro a0 a1 a2 k;obtain ⟨ih0,ih1⟩:=Qbg.mono_l k;unfold Qbg.f
 repeat' (with_reducible first|apply ih0|apply ih1|apply Qb7.mono|apply Qbo.mono|exact LeO.refl _|exact LeO.none _|refine LeO.ite ?_ ?_|refine LeO.bind ?_ (fun _=> ?_))
set_option maxHeartbeats 8000000 in
set_option maxRecDepth 100000 in
theorem Qbg.calls (k : Nat) (A0_0 : Option Addr) (c0_0 : Nat) (l0_0 : List Int) (a1 : Int) (a2 : Int) (r : Int) (w : World) (hr0_0 : Kd.C (Kd.int .i64) w A0_0 l0_0.length l0_0) (hc0_0 : l0_0.length ≤ c0_0) (h : Qbg.f k l0_0 a1 a2 = some r) :
 Calls Tryz.prog 160 #[.agg #[.slice A0_0 l0_0.length c0_0], .int .i64 a1, .int .i64 a2] w fun e w'=>e= .returned (.int .i64 r)∧Below w.heap.size w w':=by
 have hu26:=Tryz.underlying26;have HR0_0:=Aside0.mk hr0_0;have HC0_0:=Aside0.mk hc0_0;clear hr0_0 hc0_0;have HB:=Aside0.mk (Below.refl w.heap.size w);have H:(Qbg.l0 k a1 a2 (mx a2 0) 0 l0_0)=some r:=h;clear h;obtain ⟨ji4,hji4⟩: ∃ j_:Int,(mx a2 0)=j_:=⟨_,rfl⟩
 replace H:(Qbg.l0 k a1 a2 ji4 0 l0_0)=some r:=by first|(rw [hji4] at H;exact H)|(simp only [hji4] at H ⊢;exact H)
 (try (have hji4l:0≤ji4:=by (rw [←hji4];unfold mx;(repeat' split)<;>omega)))
 (try (have hji4m:0≤ji4:=by omega))
 have hji4_:(if a2<0 then 0 else a2)=ji4:=hji4;have H':=Aside0.mk H;clear H;go_enter Tryz.func160,Tryz.ntmps160;go_wp2_with (first|(refine bE (N:=3) (cs:= #[.slice A0_0 l0_0.length c0_0]) (t:=26) ?_;intro gb149 hg w5 hbox hb;have BK149:=Aside0.mk (hbox);have GW149:=Aside0.mk ((by rw [hg];exact (Qd (uB HB)):w.heap.size≤gb149));have GE149:=GW149;replace HB:=Aside0.mk (Qc (uB HB) hb);clear hb hbox hg))
 go_loopg [1,9] k (fun kq v1 v9 w'=> ∃ (x1_1:Int) (x9_1:Int),v1= .int .i64 x1_1∧v9= .int .i64 x9_1∧Aside0 (Qbg.l0 kq x1_1 a2 ji4 x9_1 l0_0=some r)∧Aside0 (kq≤k)∧Aside0 (w'.heap[gb149]? =some (.cells #[(.slice A0_0 l0_0.length c0_0)] 26 (0,0)))∧Aside0 (Below w.heap.size w w'))
 case atStart=>exact ⟨(a1),(0),(by first|rfl|(simp;done)|(simp [*];done)),(by first|rfl|(simp;done)|(simp [*];done)),H',⟨Nat.le_refl _⟩,⟨uK BK149⟩,⟨(vB HB)⟩⟩
 case round=>
  clear H'
  skip
  obtain ⟨x1_1,x9_1,rfl,rfl,HA,HK1,BK149,HB⟩:=hrel;cases gk with
  |zero=>exact absurd HA.out (by simp [Qbg.l0])
  |succ k1=>
   have H:=HA.out;clear HA;simp only [Qbg.l0] at H
   by_cases c6:x9_1<ji4
   ·
    rw [if_pos c6] at H;have c6b0:=decide_eq_true c6;clear c6;obtain ⟨t150,A7,H⟩:=bs H;(try dsimp only at H)
    have H':=Aside0.mk H;clear H;have hcz8_0:=bC BK149;have hfz8_0:=Qe BK149.out 0;go_wp2_with (first|(refine gA (some 13) Tryz.func235 #[.agg #[.slice A0_0 l0_0.length c0_0], .int .i64 x1_1] ?_;(with_reducible refine (Qbo.calls k1 _ _ l0_0 x1_1 t150 _ (uD HR0_0 HB) HC0_0.out A7.out).mono ?_);rintro e w9 ⟨rfl,hb⟩;refine ⟨_,rfl,?_⟩;replace BK149:=Aside0.mk (Qb (uK BK149) hb);replace HB:=Aside0.mk (Qc (vB HB) hb);(try clear hb)));go_roundg k1
    case measure=>have:=HK1.out;omega
    case rel=>exact ⟨(t150),(wrap64 (x9_1+1)),(by first|rfl|(simp;done)|(simp [*];done)),(by first|rfl|(simp;done)|(simp [*];done)),H',⟨by have:=HK1.out;omega⟩,⟨uK BK149⟩,⟨(vB HB)⟩⟩
   ·
    rw [if_neg c6] at H;have c6b0:=decide_eq_false c6;clear c6;obtain ⟨ji10,hji10⟩: ∃ j_:Int,(mx (wrap64 (-a2)) 0)=j_:=⟨_,rfl⟩
    replace H:(Qbg.l1 k1 x1_1 ji10 0 l0_0)=some r:=by first|(rw [hji10] at H;exact H)|(simp only [hji10] at H ⊢;exact H)
    have hji10_:(if (wrap64 (-a2))<0 then 0 else (wrap64 (-a2)))=ji10:=hji10;have H':=Aside0.mk H;clear H;go_wp2
    go_loopg [1,18] k1 (fun kq v1 v18 w'=> ∃ (x1_2:Int) (x18_2:Int),v1= .int .i64 x1_2∧v18= .int .i64 x18_2∧Aside0 (Qbg.l1 kq x1_2 ji10 x18_2 l0_0=some r)∧Aside0 (kq≤k1)∧Aside0 (w'.heap[gb149]? =some (.cells #[(.slice A0_0 l0_0.length c0_0)] 26 (0,0)))∧Aside0 (Below w.heap.size w w'))
    case atStart=>exact ⟨(x1_1),(0),(by first|rfl|(simp;done)|(simp [*];done)),(by first|rfl|(simp;done)|(simp [*];done)),H',⟨Nat.le_refl _⟩,⟨uK BK149⟩,⟨(vB HB)⟩⟩
    case round=>
     clear H'
     try clear c6b0
     obtain ⟨x1_2,x18_2,rfl,rfl,HA,HK2,BK149,HB⟩:=hrel;cases gk with
     |zero=>exact absurd HA.out (by simp [Qbg.l1])
     |succ k2=>
      have H:=HA.out;clear HA;simp only [Qbg.l1] at H
      by_cases c11:x18_2<ji10
      ·
       rw [if_pos c11] at H;have c11b0:=decide_eq_true c11;clear c11;obtain ⟨t151,A12,H⟩:=bs H;(try dsimp only at H)
       have H':=Aside0.mk H;clear H;have hcz13_0:=bC BK149;have hfz13_0:=Qe BK149.out 0;go_wp2_with (first|(refine gA (some 22) Tryz.func176 #[.agg #[.slice A0_0 l0_0.length c0_0], .int .i64 x1_2] ?_;(with_reducible refine (Qb7.calls k2 _ _ l0_0 x1_2 t151 _ (uD HR0_0 HB) HC0_0.out A12.out).mono ?_);rintro e w14 ⟨rfl,hb⟩;refine ⟨_,rfl,?_⟩;replace BK149:=Aside0.mk (Qb (uK BK149) hb);replace HB:=Aside0.mk (Qc (vB HB) hb);(try clear hb)));go_roundg k2
       case measure=>have:=HK1.out;have:=HK2.out;omega
       case rel=>exact ⟨(t151),(wrap64 (x18_2+1)),(by first|rfl|(simp;done)|(simp [*];done)),(by first|rfl|(simp;done)|(simp [*];done)),H',⟨by have:=HK1.out;have:=HK2.out;omega⟩,⟨uK BK149⟩,⟨(vB HB)⟩⟩
      ·
       rw [if_neg c11] at H;have c11b0:=decide_eq_false c11;clear c11;obtain rfl:=Option.some.inj H;go_wp2
       go_ret
       exact ⟨by first|rfl|(simp [Qf,Qg] <;>rfl)|(simp only [←hji4,←hji10];first|rfl|(simp [Qf,Qg] <;>rfl))|(simp [*,Qf,Qg] <;>rfl),(vB HB)⟩
def Qb2.f (k : Nat) (l0_0 : List Int) (a1 : Int) (a2 : Int) : Option (Int × Bool) := (Qc0.f k l0_0 a1).bind fun t153 => (if t153 = true then ((Qcs.f a2 (-1000) 1000).bind fun t154 => (if t154 = true then ((Qbg.f k l0_0 a1 a2).bind fun t155 => (some (t155, true))) else (some (0, false)))) else (some (0, false)))
theorem Qb2.mono : ∀ a0 a1 a2 k, LeO (Qb2.f k a0 a1 a2) (Qb2.f (k + 1) a0 a1 a2) := by
 intro a0 a1 a2 k;unfold Qb2.f
 repeat' (with_reducible first|apply Qbg.mono|apply Qc0.mono|exact LeO.refl _|exact LeO.none _|refine LeO.ite ?_ ?_|refine LeO.bind ?_ (fun _=> ?_))
set_option maxHeartbeats 8000000 in
set_option maxRecDepth 100000 in
theorem Qb2.calls (k : Nat) (A0_0 : Option Addr) (c0_0 : Nat) (l0_0 : List Int) (a1 : Int) (a2 : Int) (r1 : Int) (r2 : Bool) (w : World) (hr0_0 : Kd.C (Kd.int .i64) w A0_0 l0_0.length l0_0) (hc0_0 : l0_0.length ≤ c0_0) (h : Qb2.f k l0_0 a1 a2 = some (r1, r2)) :
 Calls Tryz.prog 18 #[.agg #[.slice A0_0 l0_0.length c0_0], .int .i64 a1, .int .i64 a2] w fun e w'=>e= .returned (.tuple #[.int .i64 r1, .bool r2])∧Below w.heap.size w w':=by
 have hu26:=Tryz.underlying26;have HR0_0:=Aside0.mk hr0_0;have HC0_0:=Aside0.mk hc0_0;clear hr0_0 hc0_0;have HB:=Aside0.mk (Below.refl w.heap.size w);have H:((Qc0.f k l0_0 a1).bind fun t153=>(if t153=true then ((Qcs.f a2 (-1000) 1000).bind fun t154=>(if t154=true then ((Qbg.f k l0_0 a1 a2).bind fun t155=>(some (t155,true))) else (some (0,false)))) else (some (0,false))))=some (r1,r2):=h;clear h;obtain ⟨t153,A4,H⟩:=bs H;(try dsimp only at H)
 by_cases c5:t153=true
 ·
  subst c5;rw [if_pos rfl] at H;obtain ⟨t154,A6,H⟩:=bs H;(try dsimp only at H)
  by_cases c7:t154=true
  ·
   subst c7;rw [if_pos rfl] at H;obtain ⟨t155,A8,H⟩:=bs H;(try dsimp only at H)
   simp only [Option.some.injEq,Prod.mk.injEq] at H;obtain ⟨rfl,rfl⟩:=H;go_enter Tryz.func18,Tryz.ntmps18;go_wp2_with (first|(refine bE (N:=3) (cs:= #[.slice A0_0 l0_0.length c0_0]) (t:=26) ?_;intro gb152 hg w9 hbox hb;have BK152:=Aside0.mk (hbox);have GW152:=Aside0.mk ((by rw [hg];exact (Qd (uB HB)):w.heap.size≤gb152));have GE152:=GW152;replace HB:=Aside0.mk (Qc (uB HB) hb);clear hb hbox hg;have hcz10_0:=bC BK152;have hfz10_0:=Qe BK152.out 0)|(refine gA (some 10) Tryz.func158 #[.agg #[.slice A0_0 l0_0.length c0_0], .int .i64 a1] ?_;(with_reducible refine (Qc0.calls k _ _ l0_0 a1 true _ (uD HR0_0 HB) HC0_0.out A4.out).mono ?_);rintro e w11 ⟨rfl,hb⟩;refine ⟨_,rfl,?_⟩;replace BK152:=Aside0.mk (Qb (uK BK152) hb);replace HB:=Aside0.mk (Qc (vB HB) hb);(try clear hb))|(go_at_call 159;(with_reducible refine (Qcs.calls a2 (-1000) 1000 true _ A6.out).mono ?_);rintro e w' ⟨rfl,⟨nd,rfl⟩⟩;have hcz12_0:=bC BK152;have hfz12_0:=Qe BK152.out 0)|(refine gA (some 20) Tryz.func160 #[.agg #[.slice A0_0 l0_0.length c0_0], .int .i64 a1, .int .i64 a2] ?_;(with_reducible refine (Qbg.calls k _ _ l0_0 a1 a2 t155 _ ?side1 HC0_0.out A8.out).mono ?_);(case side1=>repeat (first|exact (Kd.C_below HR0_0.out (vB HB))|(with_reducible refine Kd.C_alloc ?_ _)|(with_reducible refine Kd.C_drewN ?_ _)|(with_reducible refine Kd.C_drew ?_)));rintro e w13 ⟨rfl,hb⟩;refine ⟨_,rfl,?_⟩;replace BK152:=Aside0.mk (Qb (uK BK152) hb);replace HB:=Aside0.mk (Qc (vB HB) hb);(try clear hb)))
   go_ret2
   exact ⟨by first|rfl|(simp [Qf,Qg] <;>rfl)|(simp [*,Qf,Qg] <;>rfl),(vB HB)⟩
  ·
   replace c7:=Bool.eq_false_iff.mpr c7;subst c7;rw [if_neg (show ¬ (false=true) by decide)] at H;simp only [Option.some.injEq,Prod.mk.injEq] at H;obtain ⟨rfl,rfl⟩:=H;go_enter Tryz.func18,Tryz.ntmps18;go_wp2_with (first|(refine bE (N:=3) (cs:= #[.slice A0_0 l0_0.length c0_0]) (t:=26) ?_;intro gb152 hg w14 hbox hb;have BK152:=Aside0.mk (hbox);have GW152:=Aside0.mk ((by rw [hg];exact (Qd (uB HB)):w.heap.size≤gb152));have GE152:=GW152;replace HB:=Aside0.mk (Qc (uB HB) hb);clear hb hbox hg;have hcz15_0:=bC BK152;have hfz15_0:=Qe BK152.out 0)|(refine gA (some 10) Tryz.func158 #[.agg #[.slice A0_0 l0_0.length c0_0], .int .i64 a1] ?_;(with_reducible refine (Qc0.calls k _ _ l0_0 a1 true _ (uD HR0_0 HB) HC0_0.out A4.out).mono ?_);rintro e w16 ⟨rfl,hb⟩;refine ⟨_,rfl,?_⟩;replace BK152:=Aside0.mk (Qb (uK BK152) hb);replace HB:=Aside0.mk (Qc (vB HB) hb);(try clear hb))|(go_at_call 159;(with_reducible refine (Qcs.calls a2 (-1000) 1000 false _ A6.out).mono ?_);rintro e w' ⟨rfl,⟨nd,rfl⟩⟩))
   go_ret2
   exact ⟨by first|rfl|(simp [Qf,Qg] <;>rfl)|(simp [*,Qf,Qg] <;>rfl),(vB HB)⟩
 ·
  replace c5:=Bool.eq_false_iff.mpr c5;subst c5;rw [if_neg (show ¬ (false=true) by decide)] at H;simp only [Option.some.injEq,Prod.mk.injEq] at H;obtain ⟨rfl,rfl⟩:=H;go_enter Tryz.func18,Tryz.ntmps18;go_wp2_with (first|(refine bE (N:=3) (cs:= #[.slice A0_0 l0_0.length c0_0]) (t:=26) ?_;intro gb152 hg w17 hbox hb;have BK152:=Aside0.mk (hbox);have GW152:=Aside0.mk ((by rw [hg];exact (Qd (uB HB)):w.heap.size≤gb152));have GE152:=GW152;replace HB:=Aside0.mk (Qc (uB HB) hb);clear hb hbox hg;have hcz18_0:=bC BK152;have hfz18_0:=Qe BK152.out 0)|(refine gA (some 10) Tryz.func158 #[.agg #[.slice A0_0 l0_0.length c0_0], .int .i64 a1] ?_;(with_reducible refine (Qc0.calls k _ _ l0_0 a1 false _ (uD HR0_0 HB) HC0_0.out A4.out).mono ?_);rintro e w19 ⟨rfl,hb⟩;refine ⟨_,rfl,?_⟩;replace BK152:=Aside0.mk (Qb (uK BK152) hb);replace HB:=Aside0.mk (Qc (vB HB) hb);(try clear hb)))
  go_ret2
  exact ⟨by first|rfl|(simp [Qf,Qg] <;>rfl)|(simp [*,Qf,Qg] <;>rfl),(vB HB)⟩
def Qdi.f (k : Nat) (l0_0 : List Int) (a1 : Int) : Option (Int × Bool) := (Qb2.f k l0_0 a1 1).bind fun bt157 => (some (bt157.1, bt157.2))
theorem Qdi.mono : ∀ a0 a1 k, LeO (Qdi.f k a0 a1) (Qdi.f (k + 1) a0 a1) := by
 intro a0 a1 k;unfold Qdi.f
 repeat' (with_reducible first|apply Qb2.mono|exact LeO.refl _|exact LeO.none _|refine LeO.ite ?_ ?_|refine LeO.bind ?_ (fun _=> ?_))
set_option maxHeartbeats 8000000 in
set_option maxRecDepth 100000 in
theorem Qdi.calls (k : Nat) (A0_0 : Option Addr) (c0_0 : Nat) (l0_0 : List Int) (a1 : Int) (r1 : Int) (r2 : Bool) (w : World) (hr0_0 : Kd.C (Kd.int .i64) w A0_0 l0_0.length l0_0) (hc0_0 : l0_0.length ≤ c0_0) (h : Qdi.f k l0_0 a1 = some (r1, r2)) :
 Calls Tryz.prog 16 #[.agg #[.slice A0_0 l0_0.length c0_0], .int .i64 a1] w fun e w'=>e= .returned (.tuple #[.int .i64 r1, .bool r2])∧Below w.heap.size w w':=by
 have hu26:=Tryz.underlying26;have HR0_0:=Aside0.mk hr0_0;have HC0_0:=Aside0.mk hc0_0;clear hr0_0 hc0_0;have HB:=Aside0.mk (Below.refl w.heap.size w);have H:((Qb2.f k l0_0 a1 1).bind fun bt157=>(some (bt157.1,bt157.2)))=some (r1,r2):=h;clear h;obtain ⟨⟨t157,t158⟩,A3,H⟩:=bs H;(try dsimp only at H)
 simp only [Option.some.injEq,Prod.mk.injEq] at H;obtain ⟨rfl,rfl⟩:=H;go_enter Tryz.func16,Tryz.ntmps16;go_wp2_with (first|(refine bE (N:=2) (cs:= #[.slice A0_0 l0_0.length c0_0]) (t:=26) ?_;intro gb156 hg w4 hbox hb;have BK156:=Aside0.mk (hbox);have GW156:=Aside0.mk ((by rw [hg];exact (Qd (uB HB)):w.heap.size≤gb156));have GE156:=GW156;replace HB:=Aside0.mk (Qc (uB HB) hb);clear hb hbox hg;have hcz5_0:=bC BK156;have hfz5_0:=Qe BK156.out 0)|(refine gA (some 8) Tryz.func18 #[.agg #[.slice A0_0 l0_0.length c0_0], .int .i64 a1, .int .i64 1] ?_;(with_reducible refine (Qb2.calls k _ _ l0_0 a1 1 t157 t158 _ (uD HR0_0 HB) HC0_0.out A3.out).mono ?_);rintro e w6 ⟨rfl,hb⟩;refine ⟨_,rfl,?_⟩;replace BK156:=Aside0.mk (Qb (uK BK156) hb);replace HB:=Aside0.mk (Qc (vB HB) hb);(try clear hb)))
 go_ret2
 exact ⟨by first|rfl|(simp [Qf,Qg] <;>rfl)|(simp [*,Qf,Qg] <;>rfl),(vB HB)⟩
end Go.Proofs.YtkgngggppcmpfaaGreat.L
end
section
namespace Go.Proofs.YtkgngggppcmpfaaGreat.L
open Go.RowKit Go.Proofs.YtkgngggppcmpfaaGreatW.PrintWords Go.Proofs.YtkgngggppcmpfaaGreatW.PrintLast Go.Proofs.YtkgngggppcmpfaaGreatW.PrintMore
attribute [local go_sem] Q2 Q4 Qbd Qbe Qz Q0 Q3 Q5
set_option linter.unusedVariables false
set_option linter.unusedSimpArgs false
def Qbb.l0 : Nat → List Int → List Int → Int → Int → Option (Bool)
 |0,_,_,_,_=>none
 |k+1,x0,x1,x12,x13=>if x13<x12 then (if 0≤x13 then (if x13<(x0.length:Int) then (if x13<(x1.length:Int) then (if (rd x0 x13)=(rd x1 x13) then (Qbb.l0 k x0 x1 x12 (wrap64 (x13+1))) else (some false)) else (none)) else (none)) else (none)) else (some true)
def Qbb.f (k : Nat) (l0 : List Int) (l1 : List Int) : Option (Bool) := if (l0.length : Int) = (l1.length : Int) then (Qbb.l0 k l0 l1 (l0.length : Int) 0) else (some false)
theorem Qbb.mono_l : ∀ k, (∀ y0 y1 y2 y3, LeO (Qbb.l0 k y0 y1 y2 y3) (Qbb.l0 (k + 1) y0 y1 y2 y3))
 |0=>fun _ _ _ _ r h=>by simp [Qbb.l0] at h
 |k+1=>by
  have ih0:=Qbb.mono_l k
  ·
   intro y0 y1 y2 y3;unfold Qbb.l0
   repeat' first
   |(with_reducible exact ih0 _ _ _ _)
   |(with_reducible exact LeO.refl _)
   |(with_reducible exact LeO.none _)
   |(with_reducible refine LeO.ite ?_ ?_)
   |(with_reducible refine LeO.bind ?_ (fun _=> ?_))
   |exact ih0 _ _ _ _
   |exact LeO.none _
   |refine LeO.ite ?_ ?_
   |refine LeO.bind ?_ (fun _=> ?_)
theorem Qbb.mono : ∀ a0 a1 k, LeO (Qbb.f k a0 a1) (Qbb.f (k + 1) a0 a1) := by
 intro a0 a1 k;have ih0:=Qbb.mono_l k;unfold Qbb.f
 repeat' (with_reducible first|apply ih0|exact LeO.refl _|exact LeO.none _|refine LeO.ite ?_ ?_|refine LeO.bind ?_ (fun _=> ?_))
set_option maxHeartbeats 8000000 in
set_option maxRecDepth 100000 in
theorem Qbb.calls (k : Nat) (A0 : Option Addr) (c0 : Nat) (l0 : List Int) (A1 : Option Addr) (c1 : Nat) (l1 : List Int) (r : Bool) (w : World) (hr0 : Kd.C (Kd.int .i64) w A0 l0.length l0) (hc0 : l0.length ≤ c0) (hr1 : Kd.C (Kd.int .i64) w A1 l1.length l1) (hc1 : l1.length ≤ c1) (h : Qbb.f k l0 l1 = some r) :
 Calls Tryz.prog 22 #[.slice A0 l0.length c0, .slice A1 l1.length c1] w fun e w'=>e= .returned (.bool r)∧Drawn0 w w':=by
 have HR0:=Aside0.mk hr0;have HC0:=Aside0.mk hc0;clear hr0 hc0;have HR1:=Aside0.mk hr1;have HC1:=Aside0.mk hc1;clear hr1 hc1;have H:(if (l0.length:Int)=(l1.length:Int) then (Qbb.l0 k l0 l1 (l0.length:Int) 0) else (some false))=some r:=h;clear h
 by_cases c3:(l0.length:Int)=(l1.length:Int)
 ·
  rw [if_pos c3] at H;have c3b0:((l0.length:Int)==(l1.length:Int))=true:=beq_iff_eq.mpr c3;have c3b1:((l0.length:Int) !=(l1.length:Int))=false:=bne_eq_false_iff_eq.mpr c3;have c3b2:(l0.length==l1.length)=true:=by first|simpa using c3|(simp at c3 ⊢;omega)
  clear c3;have H':=Aside0.mk H;clear H;go_enter Tryz.func22,Tryz.ntmps22;go_wp2
  repeat (go_quiet (fail);try go_wp2)
  go_loopg [13] k (fun kq v13 w'=> ∃ (x13_1:Int),v13= .int .i64 x13_1∧Aside0 (Qbb.l0 kq l0 l1 (l0.length:Int) x13_1=some r)∧Aside0 (kq≤k)∧Drawn0 w w')
  case atStart=>exact ⟨(0),(by first|rfl|(simp;done)|(simp [*];done)),H',⟨Nat.le_refl _⟩,by repeat (first|exact Drawn0.refl _|apply Drawn0.step)⟩
  case round=>
   clear H'
   try clear c3b0 c3b1 c3b2
   obtain ⟨x13_1,rfl,HA,HK1,⟨m1,rfl⟩⟩:=hrel;cases gk with
   |zero=>exact absurd HA.out (by simp [Qbb.l0])
   |succ k1=>
    have H:=HA.out;clear HA;simp only [Qbb.l0] at H
    by_cases c4:x13_1<(l0.length:Int)
    ·
     rw [if_pos c4] at H;have c4b0:=decide_eq_true c4;clear c4
     by_cases c5:0≤x13_1
     ·
      rw [if_pos c5] at H;have c5b0:=decide_eq_true c5;clear c5
      by_cases c6:x13_1<(l0.length:Int)
      ·
       rw [if_pos c6] at H;have c6b0:=decide_eq_true c6;clear c6
       by_cases c7:x13_1<(l1.length:Int)
       ·
        rw [if_pos c7] at H;have c7b0:=decide_eq_true c7;clear c7
        by_cases c8:(rd l0 x13_1)=(rd l1 x13_1)
        ·
         rw [if_pos c8] at H;have c8b0:((rd l0 x13_1)==(rd l1 x13_1))=true:=beq_iff_eq.mpr c8;have c8b1:((rd l0 x13_1) !=(rd l1 x13_1))=false:=bne_eq_false_iff_eq.mpr c8;clear c8;have H':=Aside0.mk H;clear H;have p159:0≤(x13_1:Int):=of_decide_eq_true (by first|(with_reducible assumption)|assumption);have q159:x13_1<(l0.length:Int):=of_decide_eq_true (by first|(with_reducible assumption)|assumption);obtain ⟨ad159,e159,hx159_0⟩:=Kd.at_int HR0.out x13_1 p159 q159;cases e159;replace p159:=eq_true p159;replace q159:=eq_true q159;have p160:0≤(x13_1:Int):=of_decide_eq_true (by first|(with_reducible assumption)|assumption);have q160:x13_1<(l1.length:Int):=of_decide_eq_true (by first|(with_reducible assumption)|assumption);obtain ⟨ad160,e160,hx160_0⟩:=Kd.at_int HR1.out x13_1 p160 q160;cases e160;replace p160:=eq_true p160;replace q160:=eq_true q160;go_wp2
         repeat (go_quiet (fail);try go_wp2)
         go_roundg k1
         case measure=>have:=HK1.out;omega
         case rel=>exact ⟨(wrap64 (x13_1+1)),(by first|rfl|(simp;done)|(simp [*];done)),H',⟨by have:=HK1.out;omega⟩,by repeat (first|exact Drawn0.refl _|apply Drawn0.step)⟩
        ·
         rw [if_neg c8] at H;have c8b0:((rd l0 x13_1)==(rd l1 x13_1))=false:=beq_eq_false_iff_ne.mpr c8;have c8b1:((rd l0 x13_1) !=(rd l1 x13_1))=true:=bne_iff_ne.mpr c8;obtain rfl:=Option.some.inj H;have p159:0≤(x13_1:Int):=of_decide_eq_true (by first|(with_reducible assumption)|assumption);have q159:x13_1<(l0.length:Int):=of_decide_eq_true (by first|(with_reducible assumption)|assumption);obtain ⟨ad159,e159,hx159_0⟩:=Kd.at_int HR0.out x13_1 p159 q159;cases e159;replace p159:=eq_true p159;replace q159:=eq_true q159;have p160:0≤(x13_1:Int):=of_decide_eq_true (by first|(with_reducible assumption)|assumption);have q160:x13_1<(l1.length:Int):=of_decide_eq_true (by first|(with_reducible assumption)|assumption);obtain ⟨ad160,e160,hx160_0⟩:=Kd.at_int HR1.out x13_1 p160 q160;cases e160;replace p160:=eq_true p160;replace q160:=eq_true q160;go_wp2
         repeat (go_quiet (fail);try go_wp2)
         go_ret
         exact ⟨by first|rfl|(simp;done)|(simp [*];done),by repeat (first|exact Drawn0.refl _|apply Drawn0.step)⟩
       ·
        rw [if_neg c7] at H;exact absurd H (by simp)
      ·
       rw [if_neg c6] at H;exact absurd H (by simp)
     ·
      rw [if_neg c5] at H;exact absurd H (by simp)
    ·
     rw [if_neg c4] at H;have c4b0:=decide_eq_false c4;clear c4;obtain rfl:=Option.some.inj H;go_wp2
     repeat (go_quiet (fail);try go_wp2)
     go_ret
     exact ⟨by first|rfl|(simp;done)|(simp [*];done),by repeat (first|exact Drawn0.refl _|apply Drawn0.step)⟩
 ·
  rw [if_neg c3] at H;have c3b0:((l0.length:Int)==(l1.length:Int))=false:=beq_eq_false_iff_ne.mpr c3;have c3b1:((l0.length:Int) !=(l1.length:Int))=true:=bne_iff_ne.mpr c3;have c3b2:(l0.length==l1.length)=false:=by first|simpa using c3|(simp at c3 ⊢;omega)
  obtain rfl:=Option.some.inj H;go_enter Tryz.func22,Tryz.ntmps22;go_wp2
  repeat (go_quiet (fail);try go_wp2)
  go_ret
  exact ⟨by first|rfl|(simp;done)|(simp [*];done),by repeat (first|exact Drawn0.refl _|apply Drawn0.step)⟩
def Qa (w0 W : World) (g : Nat) (f0 : List Int) (f1 : Int) (f2 : Int) : Prop := ∃ A0 c0, W.heap[g]? = some (.cells #[.slice A0 f0.length c0, .int .i64 f1, .int .u64 f2] 94 (0, 0)) ∧ w0.heap.size ≤ g ∧ Kd.C (Kd.int .u8) w0 A0 f0.length f0
theorem Qa.grown {w0 W : World} {g : Nat} {f0 : List Int} {f1 : Int} {f2 : Int} {W1 : World} {row : Option Nat} (h : Qa w0 W g f0 f1 f2) (hw : W.grownBy W1 row) (hne : some g ≠ row) : Qa w0 W1 g f0 f1 f2 := by
 obtain ⟨A0,c0,hb,hg,hr0⟩:=h;exact ⟨A0,c0,Qdq hb hw hne,hg,hr0⟩
theorem Qa.own_neN {w0 W : World} {g : Nat} {f0 : List Int} {f1 : Int} {f2 : Int} {α : Type} {d : Kd α} {e : Nat} {base : Nat} {ok : Nat → Prop} {v : Value} {xs : List α} (h : Qa w0 W g f0 f1 f2) (ho : Kd.N d e W base ok v xs) (ht : e ≠ 94) : some g ≠ v.ownBlock := by
 obtain ⟨A0,c0,hb,hg,hr0⟩:=h;exact Kd.N_ne ho hb ht
theorem Qa.fresh {w0 W : World} {g : Nat} {f0 : List Int} {f1 : Int} {f2 : Int} (h : Qa w0 W g f0 f1 f2) : ∀ k, W.heap.size ≤ k → k ≠ g := by
 obtain ⟨A0,c0,hb,hg,hr0⟩:=h;exact Kd.freshB hb
theorem Qa.kept {w0 W : World} {g : Nat} {f0 : List Int} {f1 : Int} {f2 : Int} {W1 : World} {S : Nat → Prop} (h : Qa w0 W g f0 f1 f2) (hk : Kept W W1 S) (hne : ¬ S g) : Qa w0 W1 g f0 f1 f2 := by
 obtain ⟨A0,c0,hb,hg,hr0⟩:=h;exact ⟨A0,c0,blk_kept hb hk hne,hg,hr0⟩
theorem Qa.below {w0 W : World} {g : Nat} {f0 : List Int} {f1 : Int} {f2 : Int} {W1 : World} (h : Qa w0 W g f0 f1 f2) (hw : Below W.heap.size W W1) : Qa w0 W1 g f0 f1 f2 := h.grown (Qfq hw none) (by simp)
theorem Qa.alloc {w0 W : World} {g : Nat} {f0 : List Int} {f1 : Int} {f2 : Int} (h : Qa w0 W g f0 f1 f2) (o : Obj) : Qa w0 (W.alloc o) g f0 f1 f2 := h.below (Qj (Below.refl _ _) o)
theorem Qa.drewN {w0 W : World} {g : Nat} {f0 : List Int} {f1 : Int} {f2 : Int} (h : Qa w0 W g f0 f1 f2) (m : Nat) : Qa w0 (W.drewN m) g f0 f1 f2 := h
theorem Qa.drew {w0 W : World} {g : Nat} {f0 : List Int} {f1 : Int} {f2 : Int} (h : Qa w0 W g f0 f1 f2) : Qa w0 W.drew g f0 f1 f2 := h
theorem Qa.at_ {w0 W : World} {g : Nat} {f0 : List Int} {f1 : Int} {f2 : Int} {w' : World} {m : Nat} (hq : W.drewN m = w') (h : Qa w0 W g f0 f1 f2) : Qa w0 w' g f0 f1 f2 := by subst hq; exact Qa.drewN h m
theorem Qa.apart {w0 W : World} {g : Nat} {f0 : List Int} {f1 : Int} {f2 : Int} {α : Type} {d : Kd α} {e : Nat} {base : Nat} {ok : Nat → Prop} {v : Value} {xs : List α} (h : Qa w0 W g f0 f1 f2) (ho : d.R e W base ok v xs) (ht : ∀ q, q ∈ e :: d.E → q ≠ 94) : d.R e W base (fun k => ok k ∧ k ≠ g) v xs := by
 obtain ⟨A0,c0,hb,hg,hr0⟩:=h;exact Kd.R_types ho hb ht
theorem Qa.own_ne {w0 W : World} {g : Nat} {f0 : List Int} {f1 : Int} {f2 : Int} {α : Type} {d : Kd α} {e : Nat} {base : Nat} {ok : Nat → Prop} {v : Value} {xs : List α} (h : Qa w0 W g f0 f1 f2) (ho : d.R e W base ok v xs) (ht : e ≠ 94) : some g ≠ v.ownBlock := by
 obtain ⟨A0,c0,hb,hg,hr0⟩:=h;exact Kd.R_ne ho hb ht
theorem Qa.apartQ {w0 W : World} {g : Nat} {f0 : List Int} {f1 : Int} {f2 : Int} {α : Type} {d : Kd α} {e : Nat} {base : Nat} {ok : Nat → Prop} {v : Value} {xs : List α} (h : Qa w0 W g f0 f1 f2) (ho : d.Q e W base ok v xs) (ht : ∀ q, q ∈ e :: d.E → q ≠ 94) : d.Q e W base (fun k => ok k ∧ k ≠ g) v xs := by
 obtain ⟨A0,c0,hb,hg,hr0⟩:=h;exact Kd.Q_types ho hb ht
theorem Qa.own_neQ {w0 W : World} {g : Nat} {f0 : List Int} {f1 : Int} {f2 : Int} {α : Type} {d : Kd α} {e : Nat} {base : Nat} {ok : Nat → Prop} {v : Value} {xs : List α} (h : Qa w0 W g f0 f1 f2) (ho : d.Q e W base ok v xs) (ht : e ≠ 94) : some g ≠ v.ownBlock := by
 obtain ⟨A0,c0,hb,hg,hr0⟩:=h;exact Kd.Q_ne ho hb ht
theorem Qa.apartS {w0 W : World} {g : Nat} {f0 : List Int} {f1 : Int} {f2 : Int} {α : Type} {d : Kd α} {e : Nat} {base : Nat} {ok : Nat → Prop} {v : Value} {xs : List α} (h : Qa w0 W g f0 f1 f2) (ho : d.S e W base ok v xs) (ht : ∀ q, q ∈ e :: d.E → q ≠ 94) : d.S e W base (fun k => ok k ∧ k ≠ g) v xs := by
 obtain ⟨A0,c0,hb,hg,hr0⟩:=h;exact Kd.S_types ho hb ht
theorem Qa.own_neS {w0 W : World} {g : Nat} {f0 : List Int} {f1 : Int} {f2 : Int} {α : Type} {d : Kd α} {e : Nat} {base : Nat} {ok : Nat → Prop} {v : Value} {xs : List α} (h : Qa w0 W g f0 f1 f2) (ho : d.S e W base ok v xs) (ht : e ≠ 94) : some g ≠ v.ownBlock := by
 obtain ⟨A0,c0,hb,hg,hr0⟩:=h;exact Kd.S_ne ho hb ht
theorem Qa.lt {w0 W : World} {g : Nat} {f0 : List Int} {f1 : Int} {f2 : Int} (h : Qa w0 W g f0 f1 f2) : g < W.heap.size := by
 obtain ⟨A0,c0,hb,hg,hr0⟩:=h;exact Qt hb
theorem Qa.ge {w0 W : World} {g : Nat} {f0 : List Int} {f1 : Int} {f2 : Int} (h : Qa w0 W g f0 f1 f2) : w0.heap.size ≤ g := by
 obtain ⟨A0,c0,hb,hg,hr0⟩:=h;exact hg
theorem Qa.ne_blk {w0 W : World} {g : Nat} {f0 : List Int} {f1 : Int} {f2 : Int} {a : Nat} {cs : Array Value} {t : TypeId} {fr : Nat × Nat} (h : Qa w0 W g f0 f1 f2) (hb2 : W.heap[a]? = some (.cells cs t fr)) (ht : t ≠ 94) : g ≠ a := by
 obtain ⟨A0,c0,hb,hg,hr0⟩:=h;rintro rfl;rw [hb] at hb2;injection hb2 with hb2
 injection hb2 with _ ht2
 exact ht ht2.symm
theorem Qa.far {w0 W : World} {g : Nat} {f0 : List Int} {f1 : Int} {f2 : Int} {p : Addr} (h : Qa w0 W g f0 f1 f2) (hne : g ≠ p.block) (u : Value) : Qa w0 (W.setCell p u) g f0 f1 f2 := by
 obtain ⟨A0,c0,hb,hg,hr0⟩:=h;exact ⟨A0,c0,Qem hb hne u,hg,hr0⟩
theorem Qgi {W : World} {g : Nat} {A0 : Option Addr} {c0 : Nat} {f0 : List Int} {f1 : Int} {f2 : Int} (h : W.heap[g]? = some (.cells #[.slice A0 f0.length c0, .int .i64 f1, .int .u64 f2] 94 (0, 0))) : W.cell? ⟨g, 0, none⟩ = some (.slice A0 f0.length c0) := (Qb6 h 0).trans rfl
theorem Qgj {W : World} {g : Nat} {A0 : Option Addr} {c0 : Nat} {f0 : List Int} {f1 : Int} {f2 : Int} (h : W.heap[g]? = some (.cells #[.slice A0 f0.length c0, .int .i64 f1, .int .u64 f2] 94 (0, 0))) : W.cell? ⟨g, 1, none⟩ = some (.int .i64 f1) := (Qb6 h 1).trans rfl
theorem Qa.set_1 {w0 W : World} {g : Nat} {f0 : List Int} {f1 : Int} {f2 : Int} (h : Qa w0 W g f0 f1 f2) (x : Int) : Qa w0 (W.setCell ⟨g, 1, none⟩ (.int .i64 x)) g f0 x f2 := by
 obtain ⟨A0,c0,hb,hg,hr0⟩:=h;exact ⟨A0,c0,by simpa using Qju hb 1 (.int .i64 x),hg,hr0⟩
theorem Qgk {W : World} {g : Nat} {A0 : Option Addr} {c0 : Nat} {f0 : List Int} {f1 : Int} {f2 : Int} (h : W.heap[g]? = some (.cells #[.slice A0 f0.length c0, .int .i64 f1, .int .u64 f2] 94 (0, 0))) : W.cell? ⟨g, 2, none⟩ = some (.int .u64 f2) := (Qb6 h 2).trans rfl
theorem Qa.set_2 {w0 W : World} {g : Nat} {f0 : List Int} {f1 : Int} {f2 : Int} (h : Qa w0 W g f0 f1 f2) (x : Int) : Qa w0 (W.setCell ⟨g, 2, none⟩ (.int .u64 x)) g f0 f1 x := by
 obtain ⟨A0,c0,hb,hg,hr0⟩:=h;exact ⟨A0,c0,by simpa using Qju hb 2 (.int .u64 x),hg,hr0⟩
theorem Qa.new (w0 W : World) (A0 : Option Addr) (c0 : Nat) (f0 : List Int) (f1 : Int) (f2 : Int) (hB : Below w0.heap.size w0 W) (hr0 : Kd.C (Kd.int .u8) w0 A0 f0.length f0) : Qa w0 (W.alloc (.cells #[.slice A0 f0.length c0, .int .i64 f1, .int .u64 f2] 94)) W.heap.size f0 f1 f2 := ⟨A0, c0, by simpa using heap_alloc_new W _, hB.size, hr0⟩
def Qdo.f (s0_0 : List Int) (s0_1 : Int) (s0_2 : Int) : Option (Int × Int × Int) := if s0_1 < (s0_0.length : Int) then (if 0 ≤ s0_1 then (if (wrap64 (s0_1 + 1)) ≤ (s0_0.length : Int) then (some (wrap64 (rd s0_0 s0_1), wrap64 (s0_1 + 1), IntKind.u64.wrap ((IntKind.u64.wrap ((IntKind.u64.wrap (s0_2 * 6364136223846793005)) + (IntKind.u64.wrap (wrap64 (rd s0_0 s0_1))))) + 1442695040888963407))) else (some (wrap64 (Go.bits .and .u64 ((IntKind.u64.wrap ((IntKind.u64.wrap ((IntKind.u64.wrap (s0_2 * 6364136223846793005)) + (IntKind.u64.wrap (wrap64 (rd s0_0 s0_1))))) + 1442695040888963407)) / 1099511627776) 255), wrap64 (s0_1 + 1), IntKind.u64.wrap ((IntKind.u64.wrap ((IntKind.u64.wrap (s0_2 * 6364136223846793005)) + (IntKind.u64.wrap (wrap64 (rd s0_0 s0_1))))) + 1442695040888963407)))) else (none)) else (if (wrap64 (s0_1 + 1)) ≤ (s0_0.length : Int) then (some (0, wrap64 (s0_1 + 1), IntKind.u64.wrap ((IntKind.u64.wrap ((IntKind.u64.wrap (s0_2 * 6364136223846793005)) + 0)) + 1442695040888963407))) else (some (wrap64 (Go.bits .and .u64 ((IntKind.u64.wrap ((IntKind.u64.wrap ((IntKind.u64.wrap (s0_2 * 6364136223846793005)) + 0)) + 1442695040888963407)) / 1099511627776) 255), wrap64 (s0_1 + 1), IntKind.u64.wrap ((IntKind.u64.wrap ((IntKind.u64.wrap (s0_2 * 6364136223846793005)) + 0)) + 1442695040888963407))))
set_option maxHeartbeats 8000000 in
set_option maxRecDepth 100000 in
theorem Qdo.calls (g : Nat) (s0_0 : List Int) (s0_1 : Int) (s0_2 : Int) (r1 : Int) (r2 : Int) (r3 : Int) (w0 w : World) (hI : Qa w0 w g s0_0 s0_1 s0_2) (hB : Below w0.heap.size w0 w) (h : Qdo.f s0_0 s0_1 s0_2 = some (r1, r2, r3)) :
 Calls Tryz.prog 284 #[.pointer (some ⟨g,0,none⟩)] w fun e w'=>e= .returned (.int .i64 r1)∧Qa w0 w' g s0_0 r2 r3∧Below w0.heap.size w0 w'∧Qh w w' g none:=by
 have HI0:=Aside0.mk hI;have HK:=Aside0.mk (Qh.refl w g none);have HL:=Aside0.mk hB.size;clear hI;have HW0:=Aside0.mk hB.size;have HB:=Aside0.mk hB;clear hB;have H:(if s0_1<(s0_0.length:Int) then (if 0≤s0_1 then (if (wrap64 (s0_1+1))≤(s0_0.length:Int) then (some (wrap64 (rd s0_0 s0_1),wrap64 (s0_1+1),IntKind.u64.wrap ((IntKind.u64.wrap ((IntKind.u64.wrap (s0_2*6364136223846793005))+(IntKind.u64.wrap (wrap64 (rd s0_0 s0_1)))))+1442695040888963407))) else (some (wrap64 (Go.bits .and .u64 ((IntKind.u64.wrap ((IntKind.u64.wrap ((IntKind.u64.wrap (s0_2*6364136223846793005))+(IntKind.u64.wrap (wrap64 (rd s0_0 s0_1)))))+1442695040888963407)) / 1099511627776) 255),wrap64 (s0_1+1),IntKind.u64.wrap ((IntKind.u64.wrap ((IntKind.u64.wrap (s0_2*6364136223846793005))+(IntKind.u64.wrap (wrap64 (rd s0_0 s0_1)))))+1442695040888963407)))) else (none)) else (if (wrap64 (s0_1+1))≤(s0_0.length:Int) then (some (0,wrap64 (s0_1+1),IntKind.u64.wrap ((IntKind.u64.wrap ((IntKind.u64.wrap (s0_2*6364136223846793005))+0))+1442695040888963407))) else (some (wrap64 (Go.bits .and .u64 ((IntKind.u64.wrap ((IntKind.u64.wrap ((IntKind.u64.wrap (s0_2*6364136223846793005))+0))+1442695040888963407)) / 1099511627776) 255),wrap64 (s0_1+1),IntKind.u64.wrap ((IntKind.u64.wrap ((IntKind.u64.wrap (s0_2*6364136223846793005))+0))+1442695040888963407)))))=some (r1,r2,r3):=h;clear h
 by_cases c2:s0_1<(s0_0.length:Int)
 ·
  rw [if_pos c2] at H;have c2b0:decide (s0_1<(s0_0.length:Int))=true:=decide_eq_true c2;clear c2
  by_cases c3:0≤s0_1
  ·
   rw [if_pos c3] at H;have c3b0:decide (0≤s0_1)=true:=decide_eq_true c3;clear c3
   by_cases c4:(wrap64 (s0_1+1))≤(s0_0.length:Int)
   ·
    rw [if_pos c4] at H;have c4b0:decide ((wrap64 (s0_1+1))≤(s0_0.length:Int))=true:=decide_eq_true c4;clear c4;simp only [Option.some.injEq,Prod.mk.injEq] at H;obtain ⟨rfl,rfl,rfl⟩:=H;obtain ⟨ASz5_0,cSz5_0,HGz5,hgz5,HSz5_0⟩:=HI0.out;have hcz5_0:=Qgi HGz5;have hcz5_1:=Qgj HGz5;have hcz5_2:=Qgk HGz5;have hfz5_1:=Qe HGz5 1;have hfz5_2:=Qe HGz5 2;clear HGz5 hgz5;have p161:0≤(s0_1:Int):=of_decide_eq_true (by first|(with_reducible assumption)|assumption);have q161:s0_1<(s0_0.length:Int):=of_decide_eq_true (by first|(with_reducible assumption)|assumption);obtain ⟨ad161,e161,hx161_0⟩:=Kd.at_int HSz5_0 s0_1 p161 q161;cases e161;replace hx161_0:=Qd6 HB.out hx161_0;replace p161:=eq_true p161;replace q161:=eq_true q161;go_enter Tryz.func284,Tryz.ntmps284;go_wp2
    repeat (go_quiet (fail);try go_wp2)
    go_ret
    (try simp only [Int.add_zero])
    exact ⟨by first|rfl|(simp [Qf,Qg] <;>rfl)|(simp [*,Qf,Qg] <;>rfl),by repeat (first|(with_reducible first|exact HI0.out|apply Qa.alloc|apply Qa.drewN|apply Qa.drew|apply Qa.set_1|apply Qa.set_2)|exact HI0.out),by repeat (first|(with_reducible first|exact HB.out|apply Qj|apply Qi|apply Qm|refine Ql ?_ (Qa.ge HI0.out))|exact HB.out),by repeat (first|(with_reducible first|exact HK.out|apply Qh.set_|apply Qfl|apply Qet|apply Qfk)|exact HK.out)⟩
   ·
    rw [if_neg c4] at H;have c4b0:decide ((wrap64 (s0_1+1))≤(s0_0.length:Int))=false:=decide_eq_false c4;clear c4;simp only [Option.some.injEq,Prod.mk.injEq] at H;obtain ⟨rfl,rfl,rfl⟩:=H;obtain ⟨ASz6_0,cSz6_0,HGz6,hgz6,HSz6_0⟩:=HI0.out;have hcz6_0:=Qgi HGz6;have hcz6_1:=Qgj HGz6;have hcz6_2:=Qgk HGz6;have hfz6_1:=Qe HGz6 1;have hfz6_2:=Qe HGz6 2;clear HGz6 hgz6;have p161:0≤(s0_1:Int):=of_decide_eq_true (by first|(with_reducible assumption)|assumption);have q161:s0_1<(s0_0.length:Int):=of_decide_eq_true (by first|(with_reducible assumption)|assumption);obtain ⟨ad161,e161,hx161_0⟩:=Kd.at_int HSz6_0 s0_1 p161 q161;cases e161;replace hx161_0:=Qd6 HB.out hx161_0;replace p161:=eq_true p161;replace q161:=eq_true q161;go_enter Tryz.func284,Tryz.ntmps284;go_wp2
    repeat (go_quiet (fail);try go_wp2)
    go_ret
    (try simp only [Int.add_zero])
    exact ⟨by first|rfl|(simp [Qf,Qg] <;>rfl)|(simp [*,Qf,Qg] <;>rfl),by repeat (first|(with_reducible first|exact HI0.out|apply Qa.alloc|apply Qa.drewN|apply Qa.drew|apply Qa.set_1|apply Qa.set_2)|exact HI0.out),by repeat (first|(with_reducible first|exact HB.out|apply Qj|apply Qi|apply Qm|refine Ql ?_ (Qa.ge HI0.out))|exact HB.out),by repeat (first|(with_reducible first|exact HK.out|apply Qh.set_|apply Qfl|apply Qet|apply Qfk)|exact HK.out)⟩
  ·
   rw [if_neg c3] at H;exact absurd H (by simp)
 ·
  rw [if_neg c2] at H;have c2b0:decide (s0_1<(s0_0.length:Int))=false:=decide_eq_false c2;clear c2
  by_cases c7:(wrap64 (s0_1+1))≤(s0_0.length:Int)
  ·
   rw [if_pos c7] at H;have c7b0:decide ((wrap64 (s0_1+1))≤(s0_0.length:Int))=true:=decide_eq_true c7;clear c7;simp only [Option.some.injEq,Prod.mk.injEq] at H;obtain ⟨rfl,rfl,rfl⟩:=H;obtain ⟨ASz8_0,cSz8_0,HGz8,hgz8,HSz8_0⟩:=HI0.out;have hcz8_0:=Qgi HGz8;have hcz8_1:=Qgj HGz8;have hcz8_2:=Qgk HGz8;have hfz8_1:=Qe HGz8 1;have hfz8_2:=Qe HGz8 2;clear HGz8 hgz8;go_enter Tryz.func284,Tryz.ntmps284;go_wp2
   repeat (go_quiet (fail);try go_wp2)
   go_ret
   (try simp only [Int.add_zero])
   exact ⟨by first|rfl|(simp [Qf,Qg] <;>rfl)|(simp [*,Qf,Qg] <;>rfl),by repeat (first|(with_reducible first|exact HI0.out|apply Qa.alloc|apply Qa.drewN|apply Qa.drew|apply Qa.set_1|apply Qa.set_2)|exact HI0.out),by repeat (first|(with_reducible first|exact HB.out|apply Qj|apply Qi|apply Qm|refine Ql ?_ (Qa.ge HI0.out))|exact HB.out),by repeat (first|(with_reducible first|exact HK.out|apply Qh.set_|apply Qfl|apply Qet|apply Qfk)|exact HK.out)⟩
  ·
   rw [if_neg c7] at H;have c7b0:decide ((wrap64 (s0_1+1))≤(s0_0.length:Int))=false:=decide_eq_false c7;clear c7;simp only [Option.some.injEq,Prod.mk.injEq] at H;obtain ⟨rfl,rfl,rfl⟩:=H;obtain ⟨ASz9_0,cSz9_0,HGz9,hgz9,HSz9_0⟩:=HI0.out;have hcz9_0:=Qgi HGz9;have hcz9_1:=Qgj HGz9;have hcz9_2:=Qgk HGz9;have hfz9_1:=Qe HGz9 1;have hfz9_2:=Qe HGz9 2;clear HGz9 hgz9;go_enter Tryz.func284,Tryz.ntmps284;go_wp2
   repeat (go_quiet (fail);try go_wp2)
   go_ret
   (try simp only [Int.add_zero])
   exact ⟨by first|rfl|(simp [Qf,Qg] <;>rfl)|(simp [*,Qf,Qg] <;>rfl),by repeat (first|(with_reducible first|exact HI0.out|apply Qa.alloc|apply Qa.drewN|apply Qa.drew|apply Qa.set_1|apply Qa.set_2)|exact HI0.out),by repeat (first|(with_reducible first|exact HB.out|apply Qj|apply Qi|apply Qm|refine Ql ?_ (Qa.ge HI0.out))|exact HB.out),by repeat (first|(with_reducible first|exact HK.out|apply Qh.set_|apply Qfl|apply Qet|apply Qfk)|exact HK.out)⟩
end Go.Proofs.YtkgngggppcmpfaaGreat.L
end
section
namespace Go.Proofs.YtkgngggppcmpfaaGreat.L
open Go.RowKit Go.Proofs.YtkgngggppcmpfaaGreatW.PrintWords Go.Proofs.YtkgngggppcmpfaaGreatW.PrintLast Go.Proofs.YtkgngggppcmpfaaGreatW.PrintMore Go.Proofs.YtkgngggppcmpfaaGreat.X
set_option linter.unusedVariables false
theorem Qa.vB {w0 w W : World} (k : Aside0 (Below w0.heap.size w0 w)) (h : Below w0.heap.size w0 W := by repeat (first | (with_reducible first | exact HB.out | apply Qj | apply Qi | apply Qm | refine Ql ?_ (Qa.ge (Aside0.out (by assumption))) | refine Ql ?_ (Aside0.out (by assumption))) | exact HB.out)) : Below w0.heap.size w0 W := h
theorem Qa.vI {w0 W : World} {g : Nat} {f0 : List Int} {f1 : Int} {f2 : Int} {W1 : World} {f0_ : List Int} {f1_ : Int} {f2_ : Int} (k : Aside0 (Qa w0 W g f0 f1 f2)) (h : Qa w0 W1 g f0_ f1_ f2_ := by repeat (first | (with_reducible first | exact HI0.out | apply Qa.alloc | apply Qa.drewN | apply Qa.drew | apply Qa.set_1 | apply Qa.set_2 | refine Qa.far ?_ (Aside0.out (by assumption)) _) | exact HI0.out)) : Qa w0 W1 g f0_ f1_ f2_ := h
end Go.Proofs.YtkgngggppcmpfaaGreat.L
end
