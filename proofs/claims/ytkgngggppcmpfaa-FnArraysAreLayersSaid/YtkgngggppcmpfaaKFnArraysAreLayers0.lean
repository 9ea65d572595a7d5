/- Laws about the given program: the law FnArraysAreLayers answers true for every input that its row lets in; no condition is added to the given statement. Contracts of the Go functions that it reaches, and the plain proof over lists. -/
import Derived.ArgAppend
import Derived.Below
import Derived.BigQuiet
import Derived.Deep.AppendLies
import Derived.Deep.CutBlock
import Derived.Deep.DeepCutAuto
import Derived.Deep.Draws
import Derived.Deep.LoopGhost
import Derived.Deep.OwnRows
import Derived.Deep.QuietTactic
import Derived.Deep.RegionHeld3
import Derived.Deep.RegionLaw
import Derived.KernelRfl
import Derived.Laws.BitsLemmas
import Derived.Laws.BytesArg
import Derived.Laws.IdiomCopy
import Derived.Laws.MakeOwn
import Derived.Laws.OwnMore
import Derived.Laws.Rows
import Derived.Laws.Slices
import Derived.Lib.AppendStr
import Derived.Lib.ConvBytes
import Derived.Lib.SliceRun
import Derived.Maps.AppendAt
import Derived.Maps.OwnOps
import Derived.Maps.OwnSet
import Derived.Maps.RangeWalk
import Derived.OrdersHeld
import Derived.OwnWalk
import Derived.RowKit
import Derived.RowKit3
import Derived.Shelf.Abstract
import Derived.Shelf.SlGeneric
import Derived.Shelf.SortM.Plain
import Derived.Shelf.SortM.SortNone
import Derived.Tactics
import Derived.Test.YtkgngggppcmpfaaProg
import Derived.WalkKit
import Derived.WalkSpells
import Derived.WideLaws
import Derived.Test.YtkgngggppcmpfaaWFnArraysAreLayers0
section
namespace Go.Proofs.Ytkgngggppcmpfaa.X
open Go.RowKit Go.Proofs.YtkgngggppcmpfaaW.PrintWords Go.Proofs.YtkgngggppcmpfaaW.PrintLast Go.Proofs.YtkgngggppcmpfaaW.PrintMore
set_option linter.unusedVariables false
def Fv (P:Program) (g:Nat) (lb:Array Value) (args:Array Value) (r:Value) (w:World):Prop:=
 ∀ W, Below w.heap.size w W → Calls P g (args ++ lb) W fun e w' => e = .returned r ∧ Below W.heap.size W w'
theorem Fv.calls {P:Program} {g:Nat} {lb args:Array Value} {r:Value} {w W:World} (h:Fv P g lb args r w) (hb:Below w.heap.size w W):
  Calls P g (args ++ lb) W fun e w' => e = .returned r ∧ Below W.heap.size W w' := h W hb
theorem below_to {w W w':World} (h:Below w.heap.size w W) (h':Below W.heap.size W w'):Below w.heap.size w w':=h.trans (h'.mono h.size)
theorem row_at {e:Nat} {w:World} {A:Option Addr} {n:Nat} {xs:List (List Int)} (h:Kd.C (Kd.slice e (Kd.int .i64)) w A n xs) (i:Nat) (hi:i<n):
  ∃ ad A0 c0, A = some ad ∧ w.cell? (ad.add i) = some (.slice A0 (xs.getD i []).length c0) ∧ (xs.getD i []).length ≤ c0 ∧ (Kd.int .i64).C w A0 (xs.getD i []).length (xs.getD i []) := by
 obtain ⟨ad, c, ea, _, hK, hc0⟩ := Kd.C_get h ([] : List Int) (i : Int) (by omega) (by omega)
 obtain ⟨A0, c0, rfl, l0, g0⟩ := hK
 rw [Int.toNat_natCast] at hc0 l0 g0
 refine ⟨ad, A0, c0, ea, ?_, l0, g0⟩
 have hq := hc0 0 _ rfl
 have e1 : i * (Kd.slice e (Kd.int .i64)).sz + 0 = i := by show i * 1 + 0 = i; omega
 rwa [e1] at hq
def FvL (P:Program) (g:Nat) (lb:Array Value) (x:List Int) (r:Value) (w:World):Prop:=
 ∀ W A c, Below w.heap.size w W → Kd.C (Kd.int .i64) W A x.length x → x.length ≤ c → Calls P g (#[.slice A x.length c] ++ lb) W fun e w' => e = .returned r ∧ Below W.heap.size W w'
theorem FvL.calls {P:Program} {g:Nat} {lb:Array Value} {x:List Int} {r:Value} {w W:World} {A:Option Addr} {c:Nat} (h:FvL P g lb x r w) (hb:Below w.heap.size w W) (hc:Kd.C (Kd.int .i64) W A x.length x) (hl:x.length≤c):
  Calls P g (#[.slice A x.length c] ++ lb) W fun e w' => e = .returned r ∧ Below W.heap.size W w' := h W A c hb hc hl
class Ltr (w W : World) : Prop where out : Below w.heap.size w W
section
variable {α : Type} {d : Kd α} {e base n g : Nat} {ok : Nat → Prop} {w0 w W W1 : World} {v : Value} {xs : List α} {A : Option Addr} {q : Obj}
instance lr0 : Ltr w w := ⟨Below.refl _ _⟩
instance lr1 (o : Obj) [h : Ltr w W] : Ltr w (W.alloc o) := ⟨Qq h.out o⟩
instance lr2 (m : Nat) [h : Ltr w W] : Ltr w (W.drewN m) := ⟨Qw h.out m⟩
instance lr3 [h : Ltr w W] : Ltr w W.drew := ⟨Qbb h.out⟩
theorem uR (h:Z0 (d.R e w base ok v xs)) [l:Ltr w W] :d.R e W base ok v xs:=Kd.R_below h.out l.out
theorem uC (h:Z0 (d.C w A n xs)) [l:Ltr w W] :d.C W A n xs:=Kd.C_below h.out l.out
theorem uD (h:Z0 (d.C w A n xs)) (b:Z0 (Below w.heap.size w W)) [l:Ltr W W1] :d.C W1 A n xs:=Kd.C_below (Kd.C_below h.out b.out) l.out
theorem uB (h:Z0 (Below w0.heap.size w0 w)) [l:Ltr w W] :Below w0.heap.size w0 W:=h.out.trans (l.out.mono h.out.size)
theorem uK (h:Z0 (w.heap[g]? =some q)) [l:Ltr w W] :W.heap[g]? =some q:=(l.out.block g (Qb9 h.out)).trans h.out
theorem uS (h:Z0 (Kd.S d e w base ok v xs)) [l:Ltr w W] :Kd.S d e W base ok v xs:=Kd.S_below h.out l.out
theorem uE {c:Nat} (h:Z0 (d.R e w base ok (.slice A n c) xs)) [l:Ltr w W] :d.C W A xs.length xs:=Kd.C_below (Kd.R_reads' h.out).2.2 l.out
theorem bs {α β:Type} {a:Option α} {f:α→Option β} {r:β} (h:a.bind f=some r): ∃ t,Z0 (a=some t)∧f t=some r:=by
 obtain ⟨t, h1, h2⟩ := Option.bind_eq_some_iff.mp h; exact ⟨t, ⟨h1⟩, h2⟩
end
section
variable {P : Program} {ops : Array Oper} {rest : List Oper} {o : Oper} {a : Act} {Q : Exit → Act → World → Prop} {w : World}
theorem gA {f:FuncId} {fn:Func} {aa:Array Operand} {ts:Array TypeId} (N:Option Tmp) (hf:P.funcs[f]? =some fn) (args:Array Value)
  (h : Calls P f args w fun e w' => ∃ v, e = .returned v ∧ wpList P ops Q rest (a.put N v) w')
  (hd : o.dst = N := by rfl) (hg : o.guard = none := by rfl) (hop : o.op = .call { callee := .value (.func f), args := aa, argTypes := ts } := by with_reducible rfl)
  (hname : (fn.name == "runtime.NumGoroutine") = false := by as_aux_lemma => kernel_rfl) (hb : fn.body.isSome = true := by rfl)
  (hargs : aa.map a.eval = args := by (try simp only [List.map_toArray, List.map_cons, List.map_nil]); first | done | rfl | (simp only [List.length_drop, List.length_take]; rfl)) : wpList P ops Q (o :: rest) a w :=
 Qe3 N hd hg hf hname hb args hop hargs h
theorem bE {N:Tmp} {cs:Array Value} {t:TypeId}
  (h : ∀ g, g = w.heap.size → ∀ w1, w1.heap[g]? = some (.cells cs t (0, 0)) → Below w.heap.size w w1 → wpList P ops Q rest (a.put o.dst (.pointer (some ⟨g, 0, none⟩))) w1)
  (hd : o.dst = some N := by with_reducible rfl) (hg : o.guard = none := by rfl)
  (hr : (execOp a.eval o).run P w = .ok (.value (.pointer (some ⟨w.heap.size, 0, none⟩))) (w.alloc (.cells cs t (0, 0))) := by first | (go_simp; done) | (go_simp; rfl)) : wpList P ops Q (o :: rest) a w :=
 Qeo hg hd hr h
end
section
variable {P : Program} {ops : Array Oper} {Q : Exit → Act → World → Prop} {md : Region.Mode} {S : World → Prop} {ds : List Nat}
variable {v : Value} {fuel : Nat} {l : Array Bool} {a a' : Act} {w w1 : World} {oi : Oper} {T : Bool × List (List Nat × List Nat)} {B : List Nat}
theorem pU (i N:Nat) (h:Qbz P md ops Q S ds fuel (l.setIfInBounds i true) a' w) (hT:rtab md ops=T:=by exact HT_.out)
  (hi : ops[i]? = some oi := by rfl) (hN : oi.dst = some N := by rfl) (hc : anyT T l.toList (l.setIfInBounds i true).toList i = true := by kernel_rfl)
  (hy : Yields P ops oi v a := by exact Or.inl ⟨by rfl, by (intro w'; go_simp; with_reducible rfl)⟩)
  (hQ : ∀ c a w, Q (.panic c) (a.put oi.dst v) w → Q (.panic c) a w := by exact fun _ _ _ h => h) (ha : a.put (some N) v = a' := by (simp only [Act.put, List.setIfInBounds_toArray, List.set_cons_zero, List.set_cons_succ, Qci, Qdb]; rfl)) : Qbz P md ops Q S ds (fuel + 1) l a w :=
 Qiz _ hi hN (Qia hT hc) hQ hy ha h
theorem pV (i N:Nat) (h:Qbz P md ops Q S ds fuel (l.setIfInBounds i true) a' w)
  (hi : ops[i]? = some oi := by rfl) (hN : oi.dst = some N := by rfl) (hc : anyB md ops l (l.setIfInBounds i true) i = true := by kernel_rfl)
  (hy : Yields P ops oi v a := by exact Or.inl ⟨by rfl, by (intro w'; go_simp; with_reducible rfl)⟩)
  (hQ : ∀ c a w, Q (.panic c) (a.put oi.dst v) w → Q (.panic c) a w := by exact fun _ _ _ h => h) (ha : a.put (some N) v = a' := by (simp only [Act.put, List.setIfInBounds_toArray, List.set_cons_zero, List.set_cons_succ, Qci, Qdb]; rfl)) : Qbz P md ops Q S ds (fuel + 1) l a w :=
 Qiz _ hi hN hc hQ hy ha h
theorem tU (i N:Nat) (hS:S w) (h:Qbz P md ops Q S ds fuel (l.setIfInBounds i true) a' w) (hT:rtab md ops=T:=by exact HT_.out) (hW:Qem T.2 B=true:=by exact HW_.out)
  (hi : ops[i]? = some oi := by rfl) (hN : oi.dst = some N := by rfl) (hc : takeW T B ds l.toList (l.setIfInBounds i true).toList i = true := by kernel_rfl)
  (hy : YieldsIf P ops S oi v a := by exact Or.inl ⟨by rfl, by (intro w' s0; go_simp; with_reducible rfl)⟩)
  (hQ : ∀ c a w, Q (.panic c) (a.put oi.dst v) w → Q (.panic c) a w := by exact fun _ _ _ h => h) (ha : a.put (some N) v = a' := by (simp only [Act.put, List.setIfInBounds_toArray, List.set_cons_zero, List.set_cons_succ, Qci, Qdb]; rfl)) : Qbz P md ops Q S ds (fuel + 1) l a w :=
 take_ _ hi hN (Qfg hT hW hc) hQ hy hS ha h
theorem tW (i N:Nat) (hS:S w) (h:Qbz P md ops Q S ds fuel (l.setIfInBounds i true) a' w) (hT:rtab md ops=T:=by exact HT_.out) (hW:Qem T.2 B=true:=by exact HW_.out)
  (hi : ops[i]? = some oi := by rfl) (hN : oi.dst = some N := by rfl) (hc : takeW T B ds l.toList (l.setIfInBounds i true).toList i = true := by kernel_rfl)
  (hy : YieldsIf P ops S oi v a := by exact Or.inl ⟨by rfl, by (rintro w' ⟨s0, s1⟩; go_simp; with_reducible rfl)⟩)
  (hQ : ∀ c a w, Q (.panic c) (a.put oi.dst v) w → Q (.panic c) a w := by exact fun _ _ _ h => h) (ha : a.put (some N) v = a' := by (simp only [Act.put, List.setIfInBounds_toArray, List.set_cons_zero, List.set_cons_succ, Qci, Qdb]; rfl)) : Qbz P md ops Q S ds (fuel + 1) l a w :=
 take_ _ hi hN (Qfg hT hW hc) hQ hy hS ha h
theorem tV (i N:Nat) (hS:S w) (h:Qbz P md ops Q S ds fuel (l.setIfInBounds i true) a' w)
  (hi : ops[i]? = some oi := by rfl) (hN : oi.dst = some N := by rfl) (hc : Qi0 md ops ds l (l.setIfInBounds i true) i = true := by kernel_rfl)
  (hy : YieldsIf P ops S oi v a := by exact Or.inl ⟨by rfl, by (intro w' s0; go_simp; with_reducible rfl)⟩)
  (hQ : ∀ c a w, Q (.panic c) (a.put oi.dst v) w → Q (.panic c) a w := by exact fun _ _ _ h => h) (ha : a.put (some N) v = a' := by (simp only [Act.put, List.setIfInBounds_toArray, List.set_cons_zero, List.set_cons_succ, Qci, Qdb]; rfl)) : Qbz P md ops Q S ds (fuel + 1) l a w :=
 take_ _ hi hN hc hQ hy hS ha h
theorem oU (i:Nat) (N:Option Tmp) (h: ∀ K:Act→World→Prop,Shut (∀ a' w',S w'→(S w'→Qbz P md ops Q S ds fuel (l.setIfInBounds i true) a' w')→K a' w')→if Region.wanted oi (yielded ops a.tmps)=true then Oper.wp P oi a w K Q else K (a.put N undef) w)
  (hT : rtab md ops = T := by exact HT_.out) (hi : ops[i]? = some oi := by rfl) (hN : oi.dst = N := by rfl)
  (hc : (Qft T.2 l.toList == [i] && l.toList.set i true == (l.setIfInBounds i true).toList) = true := by kernel_rfl) (hd : i ∉ ds := by decide) : Qbz P md ops Q S ds (fuel + 1) l a w :=
 one_ _ hi hN (Qil hT hc) hd h
theorem oV (i:Nat) (N:Option Tmp) (h: ∀ K:Act→World→Prop,Shut (∀ a' w',S w'→(S w'→Qbz P md ops Q S ds fuel (l.setIfInBounds i true) a' w')→K a' w')→if Region.wanted oi (yielded ops a.tmps)=true then Oper.wp P oi a w K Q else K (a.put N undef) w)
  (hi : ops[i]? = some oi := by rfl) (hN : oi.dst = N := by rfl)
  (hc : Qg5 md ops l (l.setIfInBounds i true) i = true := by kernel_rfl) (hd : i ∉ ds := by decide) : Qbz P md ops Q S ds (fuel + 1) l a w :=
 one_ _ hi hN hc hd h
theorem lU (i:Nat) (N:Option Tmp) (h: ∀ K:Act→World→Prop,Shut (∀ a' w',Qbz P md ops Q S ds fuel (l.setIfInBounds i true) a' w'→K a' w')→if Region.wanted oi (yielded ops a.tmps)=true then Oper.wp P oi a w K Q else K (a.put N undef) w)
  (hT : rtab md ops = T := by exact HT_.out) (hi : ops[i]? = some oi := by rfl) (hN : oi.dst = N := by rfl)
  (hc : (Qft T.2 l.toList == [i] && l.toList.set i true == (l.setIfInBounds i true).toList) = true := by kernel_rfl) (hd : i ∈ ds := by decide) : Qbz P md ops Q S ds (fuel + 1) l a w :=
 last_ _ hi hN (Qil hT hc) hd h
theorem nU (N:Nat) (h:Qbz P md ops Q S ds fuel l a' w) (ha:a.put (some N) v=a':=by (simp only [Act.put,List.setIfInBounds_toArray,List.set_cons_zero,List.set_cons_succ,Qci,Qdb];rfl)):Qbz P md ops Q S ds fuel l (a.put (some N) v) w:=Qix ha h
theorem sK {K:Act→World→Prop} (h:K a w1) (hw:Region.wanted oi (yielded ops a.tmps)=true:=by rfl) (hN:oi.dst=none:=by rfl)
  (hrun : (execOp a.eval oi).run P w = .ok .skip w1 := by (go_simp; rfl)) : if Region.wanted oi (yielded ops a.tmps) = true then Oper.wp P oi a w K Q else K (a.put none undef) w := skip_ hw hN hrun h
theorem sU {id n:Nat} (hS:S w.drew) (h:S w.drew→Qbz P .any ops Q S ds n (Array.replicate n false) a w.drew)
  (hm : P.follows .mixedOrders = true := by kernel_rfl) (hn : ops.size = n := by rfl) : (Code.region id ops true).wp P Q a w := start_ _ hm hn rfl hS h
theorem dU {n:Nat} (h:Q .normal a w) (hT:rtab md ops=T:=by exact HT_.out) (hr:(Qft T.2 l.toList== [])=true:=by kernel_rfl):Qbz P md ops Q S ds n l a w:=done_ (Qnw hT hr) h
end
section
variable {w W : World} {g n b : Nat} {v : Value} {t : TypeId} {f : Nat × Nat} {A : Nat} {row : Option Nat}
theorem bC (h:Z0 (w.heap[g]? =some (.cells #[v] t (0,0)))):w.cell? ⟨g,0,none⟩=some v:=(Qb4 (cs:= #[v]) (t:=t) h.out 0).trans rfl
end
end Go.Proofs.Ytkgngggppcmpfaa.X
end
section
namespace Go.Proofs.Ytkgngggppcmpfaa.X
open Go.RowKit Go.Proofs.YtkgngggppcmpfaaW.PrintWords Go.Proofs.YtkgngggppcmpfaaW.PrintLast Go.Proofs.YtkgngggppcmpfaaW.PrintMore
set_option linter.unusedVariables false
section
variable {α : Type} {d : Kd α} {e base g : Nat} {ok ok' : Nat → Prop} {w W : World} {v : Value} {xs : List α} {cs : Array Value} {t : TypeId}
theorem vB {w0 w W:World} (k:Z0 (Below w0.heap.size w0 w)) (h:Below w0.heap.size w0 W:=by repeat (first|(with_reducible first|exact HB.out|apply Qq|apply Qw|apply Qbb|refine Q1 ?_ (Z0.out (by assumption)))|exact HB.out)):Below w0.heap.size w0 W:=h
theorem vK {w0 w W:World} {row:Option Nat} (k:Z0 (Qj w0 w g row)) (h:Qj w0 W g row:=by repeat (first|(with_reducible first|exact HK.out|apply Qj.set_|apply Qgb|apply Qfc|apply Qga|refine keep_far ?_ (Z0.out (by assumption)) _)|exact HK.out)):Qj w0 W g row:=h
theorem kF {p:Prop} (h:p:=by (repeat (first|(with_reducible first|refine Qbp ?_ _|refine Qbj ?_|refine Qbk ?_ _)|refine Qdf ?_ (Z0.out (by assumption)) _));exact Z0.out (by assumption)):p:=h
theorem bP {p:Prop} (h:p:=by (with_reducible repeat (first|refine Qbp ?_ _|refine Qbj ?_|refine Qbk ?_ _));refine Qfk (cs:= ?_) ?_ 0 _ ?_;rotate_left;(repeat (first|(with_reducible first|refine Qbp ?_ _|refine Qbj ?_|refine Qbk ?_ _)|refine Qdf ?_ (Z0.out (by assumption)) _));exact Z0.out (by assumption);rfl):p:=h
theorem rF (h:Z0 (d.R e w base ok v xs)) (b:Z0 (w.heap[g]? =some (.cells cs t (0,0)))) (u:Value) [l:Ltr (w.setCell ⟨g,0,none⟩ u) W] (hd: ∀ q,q ∈ e::d.E→q≠t:=by decide):d.R e W base ok v xs:=
 Kd.R_below (Kd.R_mono (Kd.R_far (p := ⟨g, 0, none⟩) (Kd.R_types h.out b.out hd) (fun _ hk => hk.2) u) (fun _ h_ => h_.1)) l.out
end
theorem gt {P:Program} {ops:Array Oper} {Q:Exit→Act→World→Prop} {o:Oper} {rest:List Oper} {a:Act} {w:World} (h:wpList P ops Q (o::rest) a w):wpList P ops Q (o::rest) a w:=h
end Go.Proofs.Ytkgngggppcmpfaa.X
end
section
namespace Go.Proofs.Ytkgngggppcmpfaa.L
open Go.RowKit Go.Proofs.YtkgngggppcmpfaaW.PrintWords Go.Proofs.YtkgngggppcmpfaaW.PrintLast Go.Proofs.YtkgngggppcmpfaaW.PrintMore
attribute [local go_sem] Qbd Qbf Qbn Qbo Q3 Q4 Qbe Qbg
set_option linter.unusedVariables false
set_option linter.unusedSimpArgs false
def errW:Option Int→Value
 |none=> .nilIface
 |some c=> .iface 0 (.int .i64 c)
theorem Qe:errW none= .nilIface:=rfl
theorem Qf (c:Int):errW (some c)= .iface 0 (.int .i64 c):=rfl
theorem Qed:(Try.prog.info? 3).map (fun i=>(i.zero,i.size,i.bytes))=some (some (.int .i64 0),1,8):=by kernel_rfl
theorem Qfo:(Try.prog.info? 24).map (fun i=>(i.zero,i.size,i.bytes))=some (some (.slice none 0 0),1,24):=by kernel_rfl
def Qce (xs:List (List Int)) (i:Int):(List Int):=xs.getD i.toNat ([] :List Int)
theorem Qhx {w:World} {A:Option Addr} {n:Nat} {xs:List (List Int)} (h:Kd.C (Kd.slice 3 (Kd.int .i64)) w A n xs) (i:Int) (h0:0≤i) (h1:i<n): ∃ ad A0 c0,A=some ad∧w.cell? (ad.add i.toNat)=some (.slice A0 (Qce xs i).length c0)∧(Qce xs i).length≤c0∧(Kd.int .i64).C w A0 (Qce xs i).length (Qce xs i):=by
 obtain ⟨ad,c,e,_,hK,hc0⟩:=Kd.C_get h ([] :List Int) i h0 h1;have hc: ∀ j u,c[j]? =some u→w.cell? (ad.add (i.toNat*1+j))=some u:=hc0;obtain ⟨A0,c0,rfl,l0,g0⟩:=hK;exact ⟨ad,A0,c0,e,by have hq:=hc 0 _ rfl;rwa [Nat.mul_one,Nat.add_zero] at hq,l0,g0⟩
structure S26 where
 f0:(List Int)
def z26:S26:=⟨([] :List Int)⟩
def k26:Kd S26:=Kd.iso (Kd.slice 3 (Kd.int .i64)) (fun x:S26=>x.f0)
theorem k26_heap:Kd.Heap k26:=Kd.heap_iso _ (Kd.heap_slice 3 (Kd.heap_int .i64))
theorem Qjp {w:World} {x:S26} {cs:List Value} (h:k26.K w x cs): ∃ A0 c0,cs= [.slice A0 x.f0.length c0] ∧x.f0.length≤c0∧(Kd.int .i64).C w A0 x.f0.length x.f0:=by
 obtain ⟨A0,c0,rfl,l0,g0⟩:=h;exact ⟨A0,c0,rfl,l0,g0⟩
theorem k26_openM {w:World} {base:Nat} {ok:Nat→Prop} {x:S26} {cs:List Value} (h:k26.M w base ok x cs): ∃ v0,cs= [v0] ∧(Kd.int .i64).R 3 w base ok v0 x.f0:=by
 obtain ⟨v0,rfl,g0⟩:=h;exact ⟨v0,rfl,g0⟩
theorem k26_mk (w:World) (x:S26) {A0:Option Addr} {c0:Nat} (l0:x.f0.length≤c0) (g0:(Kd.int .i64).C w A0 x.f0.length x.f0):k26.K w x [.slice A0 x.f0.length c0] :=⟨A0,c0,rfl,l0,g0⟩
theorem k26_mkM (w:World) (base:Nat) (ok:Nat→Prop) (x:S26) {v0:Value} (g0:(Kd.int .i64).R 3 w base ok v0 x.f0):k26.M w base ok x [v0] :=⟨v0,rfl,g0⟩
theorem k26_openF {W:World} {ok:Nat→Prop} {x:S26} {cs:List Value} (h:Kd.FK k26 W ok x cs): ∃ A0 c0,cs= [.slice A0 x.f0.length c0] ∧x.f0.length≤c0∧Kd.F (Kd.int .i64) W ok A0 x.f0.length x.f0:=by
 obtain ⟨A0,c0,rfl,l0,_⟩:=Qjp (Kd.FK_now h);exact ⟨A0,c0,rfl,l0,(fun W' hW=>by obtain ⟨A0_,c0_,he,l0_,g0_⟩:=Qjp (h W' hW);injection (Option.some.inj (show some (Value.slice A0 x.f0.length c0)=some (Value.slice A0_ x.f0.length c0_) from congrArg (fun l=>l[0]?) he)) with ha_ _ _;rw [ha_];exact g0_)⟩
theorem k26_mkF (W:World) (ok:Nat→Prop) (x:S26) {A0:Option Addr} {c0:Nat} (l0:x.f0.length≤c0) (g0:Kd.F (Kd.int .i64) W ok A0 x.f0.length x.f0):Kd.FK k26 W ok x [.slice A0 x.f0.length c0] :=fun W2 hW=>k26_mk W2 x l0 (g0 W2 hW)
def Qks (xs:List S26) (i:Int):S26:=xs.getD i.toNat z26
theorem at_T26 {w:World} {A:Option Addr} {n:Nat} {xs:List S26} (h:Kd.C k26 w A n xs) (i:Int) (h0:0≤i) (h1:i<n): ∃ ad A0 c0,A=some ad∧w.cell? (ad.add i.toNat)=some (.slice A0 (Qks xs i).f0.length c0)∧(Qks xs i).f0.length≤c0∧(Kd.int .i64).C w A0 (Qks xs i).f0.length (Qks xs i).f0:=by
 obtain ⟨ad,c,e,_,hK,hc0⟩:=Kd.C_get h z26 i h0 h1;have hc: ∀ j u,c[j]? =some u→w.cell? (ad.add (i.toNat*1+j))=some u:=hc0;obtain ⟨A0,c0,rfl,l0,g0⟩:=Qjp hK;exact ⟨ad,A0,c0,e,by have hq:=hc 0 _ rfl;rwa [Nat.mul_one,Nat.add_zero] at hq,l0,g0⟩
def rd_L5 (xs:List (List (List Int))) (i:Int):(List (List Int)):=xs.getD i.toNat ([] :List (List Int))
theorem at_L5 {w:World} {A:Option Addr} {n:Nat} {xs:List (List (List Int))} (h:Kd.C (Kd.slice 24 (Kd.slice 3 (Kd.int .i64))) w A n xs) (i:Int) (h0:0≤i) (h1:i<n): ∃ ad A0 c0,A=some ad∧w.cell? (ad.add i.toNat)=some (.slice A0 (rd_L5 xs i).length c0)∧(rd_L5 xs i).length≤c0∧(Kd.slice 3 (Kd.int .i64)).C w A0 (rd_L5 xs i).length (rd_L5 xs i):=by
 obtain ⟨ad,c,e,_,hK,hc0⟩:=Kd.C_get h ([] :List (List Int)) i h0 h1;have hc: ∀ j u,c[j]? =some u→w.cell? (ad.add (i.toNat*1+j))=some u:=hc0;obtain ⟨A0,c0,rfl,l0,g0⟩:=hK;exact ⟨ad,A0,c0,e,by have hq:=hc 0 _ rfl;rwa [Nat.mul_one,Nat.add_zero] at hq,l0,g0⟩
def Qfp.f (l0:List Int) (l1:List Int):Option (Bool):=if (l0.length:Int)>1048576 then (some true) else (some (decide ((l1.length:Int)>(wrap64 (1048576 - (l0.length:Int))))))
set_option maxHeartbeats 8000000 in
set_option maxRecDepth 100000 in
theorem Qfp.calls (A0:Option Addr) (c0:Nat) (l0:List Int) (A1:Option Addr) (c1:Nat) (l1:List Int) (r:Bool) (w:World) (hr0:Kd.C (Kd.int .u8) w A0 l0.length l0) (hc0:l0.length≤c0) (hr1:Kd.C (Kd.int .u8) w A1 l1.length l1) (hc1:l1.length≤c1) (h:Qfp.f l0 l1=some r):
 Calls Try.prog 6 #[.slice A0 l0.length c0, .slice A1 l1.length c1] w fun e w'=>e= .returned (.bool r)∧Drawn0 w w':=by
 have HR0:=Zk hr0;have HC0:=Zk hc0;clear hr0 hc0;have HR1:=Zk hr1;have HC1:=Zk hc1;clear hr1 hc1;have H:(if (l0.length:Int)>1048576 then (some true) else (some (decide ((l1.length:Int)>(wrap64 (1048576 - (l0.length:Int)))))))=some r:=h;clear h
 by_cases c3:(l0.length:Int)>1048576
 ·
  rw [if_pos c3] at H;have c3b0:=decide_eq_true c3;have c3b1:decide (1048576<l0.length)=true:=decide_eq_true (by omega);clear c3;obtain rfl:=Option.some.inj H;go_enter Try.func6,Try.ntmps6;go_wp2
  go_ret
  exact ⟨by first|rfl|(simp;done)|(simp [*];done),by repeat (first|exact Drawn0.refl _|apply Drawn0.step)⟩
 ·
  rw [if_neg c3] at H;have c3b0:=decide_eq_false c3;have c3b1:decide (1048576<l0.length)=false:=decide_eq_false (by omega);clear c3;obtain rfl:=Option.some.inj H;go_enter Try.func6,Try.ntmps6;go_wp2
  go_ret
  exact ⟨by first|rfl|(simp;done)|(simp [*];done),by repeat (first|exact Drawn0.refl _|apply Drawn0.step)⟩
def Qbu.l0:Nat→List Int→List Int→Int→Int→Option (Bool)
 |0,_,_,_,_=>none
 |k+1,x0,x1,x12,x13=>if x13<x12 then (if 0≤x13 then (if x13<(x0.length:Int) then (if x13<(x1.length:Int) then (if (rd x0 x13)=(rd x1 x13) then (Qbu.l0 k x0 x1 x12 (wrap64 (x13+1))) else (some false)) else (none)) else (none)) else (none)) else (some true)
def Qbu.f (k:Nat) (l0:List Int) (l1:List Int):Option (Bool):=if (l0.length:Int)=(l1.length:Int) then (Qbu.l0 k l0 l1 (l0.length:Int) 0) else (some false)
theorem Qbu.mono_l: ∀ k,(∀ y0 y1 y2 y3,LeO (Qbu.l0 k y0 y1 y2 y3) (Qbu.l0 (k+1) y0 y1 y2 y3))
 |0=>fun _ _ _ _ r h=>by simp [Qbu.l0] at h
 |k+1=>by
  have ih0:=Qbu.mono_l k
  ·
   intro y0 y1 y2 y3;unfold Qbu.l0
   repeat' first
   |(with_reducible exact ih0 _ _ _ _)
   |(with_reducible exact LeO.refl _)
   |(with_reducible exact LeO.none _)
   |(with_reducible refine LeO.ite ?_ ?_)
   |(with_reducible refine LeO.bind ?_ (fun _=> ?_))
   |exact ih0 _ _ _ _
   |exact LeO.none _
   |refine LeO.ite ?_ ?_
   |refine LeO.bind ?_ (fun _=> ?_)
theorem Qbu.mono: ∀ a0 a1 k,LeO (Qbu.f k a0 a1) (Qbu.f (k+1) a0 a1):=by
 intro a0 a1 k;have ih0:=Qbu.mono_l k;unfold Qbu.f
 repeat' (with_reducible first|apply ih0|exact LeO.refl _|exact LeO.none _|refine LeO.ite ?_ ?_|refine LeO.bind ?_ (fun _=> ?_))
set_option maxHeartbeats 8000000 in
set_option maxRecDepth 100000 in
theorem Qbu.calls (k:Nat) (A0:Option Addr) (c0:Nat) (l0:List Int) (A1:Option Addr) (c1:Nat) (l1:List Int) (r:Bool) (w:World) (hr0:Kd.C (Kd.int .i64) w A0 l0.length l0) (hc0:l0.length≤c0) (hr1:Kd.C (Kd.int .i64) w A1 l1.length l1) (hc1:l1.length≤c1) (h:Qbu.f k l0 l1=some r):
 Calls Try.prog 12 #[.slice A0 l0.length c0, .slice A1 l1.length c1] w fun e w'=>e= .returned (.bool r)∧Drawn0 w w':=by
 have HR0:=Zk hr0;have HC0:=Zk hc0;clear hr0 hc0;have HR1:=Zk hr1;have HC1:=Zk hc1;clear hr1 hc1;have H:(if (l0.length:Int)=(l1.length:Int) then (Qbu.l0 k l0 l1 (l0.length:Int) 0) else (some false))=some r:=h;clear h
 by_cases c3:(l0.length:Int)=(l1.length:Int)
 ·
  rw [if_pos c3] at H;have c3b0:((l0.length:Int)==(l1.length:Int))=true:=beq_iff_eq.mpr c3;have c3b1:((l0.length:Int) !=(l1.length:Int))=false:=bne_eq_false_iff_eq.mpr c3;have c3b2:(l0.length==l1.length)=true:=by first|simpa using c3|(simp at c3 ⊢;omega)
  clear c3;have H':=Zk H;clear H;go_enter Try.func12,Try.ntmps12;go_wp2
  repeat (go_quiet (fail);try go_wp2)
  go_loopg [13] k (fun kq v13 w'=> ∃ (x13_1:Int),v13= .int .i64 x13_1∧Z0 (Qbu.l0 kq l0 l1 (l0.length:Int) x13_1=some r)∧Z0 (kq≤k)∧Drawn0 w w')
  case atStart=>exact ⟨(0),(by first|rfl|(simp;done)|(simp [*];done)),H',⟨Nat.le_refl _⟩,by repeat (first|exact Drawn0.refl _|apply Drawn0.step)⟩
  case round=>
   clear H'
   try clear c3b0 c3b1 c3b2
   obtain ⟨x13_1,rfl,HA,HK1,⟨m1,rfl⟩⟩:=hrel;cases gk with
   |zero=>exact absurd HA.out (by simp [Qbu.l0])
   |succ k1=>
    have H:=HA.out;clear HA;simp only [Qbu.l0] at H
    by_cases c4:x13_1<(l0.length:Int)
    ·
     rw [if_pos c4] at H;have c4b0:=decide_eq_true c4;clear c4
     by_cases c5:0≤x13_1
     ·
      rw [if_pos c5] at H;have c5b0:=decide_eq_true c5;clear c5
      by_cases c6:x13_1<(l0.length:Int)
      ·
       rw [if_pos c6] at H;have c6b0:=decide_eq_true c6;clear c6
       by_cases c7:x13_1<(l1.length:Int)
       ·
        rw [if_pos c7] at H;have c7b0:=decide_eq_true c7;clear c7
        by_cases c8:(rd l0 x13_1)=(rd l1 x13_1)
        ·
         rw [if_pos c8] at H;have c8b0:((rd l0 x13_1)==(rd l1 x13_1))=true:=beq_iff_eq.mpr c8;have c8b1:((rd l0 x13_1) !=(rd l1 x13_1))=false:=bne_eq_false_iff_eq.mpr c8;clear c8;have H':=Zk H;clear H;have p101:0≤(x13_1:Int):=of_decide_eq_true (by first|(with_reducible assumption)|assumption);have q101:x13_1<(l0.length:Int):=of_decide_eq_true (by first|(with_reducible assumption)|assumption);obtain ⟨ad101,e101,hx101_0⟩:=Kd.at_int HR0.out x13_1 p101 q101;cases e101;replace p101:=eq_true p101;replace q101:=eq_true q101;have p102:0≤(x13_1:Int):=of_decide_eq_true (by first|(with_reducible assumption)|assumption);have q102:x13_1<(l1.length:Int):=of_decide_eq_true (by first|(with_reducible assumption)|assumption);obtain ⟨ad102,e102,hx102_0⟩:=Kd.at_int HR1.out x13_1 p102 q102;cases e102;replace p102:=eq_true p102;replace q102:=eq_true q102;go_wp2
         repeat (go_quiet (fail);try go_wp2)
         go_roundg k1
         case measure=>have:=HK1.out;omega
         case rel=>exact ⟨(wrap64 (x13_1+1)),(by first|rfl|(simp;done)|(simp [*];done)),H',⟨by have:=HK1.out;omega⟩,by repeat (first|exact Drawn0.refl _|apply Drawn0.step)⟩
        ·
         rw [if_neg c8] at H;have c8b0:((rd l0 x13_1)==(rd l1 x13_1))=false:=beq_eq_false_iff_ne.mpr c8;have c8b1:((rd l0 x13_1) !=(rd l1 x13_1))=true:=bne_iff_ne.mpr c8;obtain rfl:=Option.some.inj H;have p101:0≤(x13_1:Int):=of_decide_eq_true (by first|(with_reducible assumption)|assumption);have q101:x13_1<(l0.length:Int):=of_decide_eq_true (by first|(with_reducible assumption)|assumption);obtain ⟨ad101,e101,hx101_0⟩:=Kd.at_int HR0.out x13_1 p101 q101;cases e101;replace p101:=eq_true p101;replace q101:=eq_true q101;have p102:0≤(x13_1:Int):=of_decide_eq_true (by first|(with_reducible assumption)|assumption);have q102:x13_1<(l1.length:Int):=of_decide_eq_true (by first|(with_reducible assumption)|assumption);obtain ⟨ad102,e102,hx102_0⟩:=Kd.at_int HR1.out x13_1 p102 q102;cases e102;replace p102:=eq_true p102;replace q102:=eq_true q102;go_wp2
         repeat (go_quiet (fail);try go_wp2)
         go_ret
         exact ⟨by first|rfl|(simp;done)|(simp [*];done),by repeat (first|exact Drawn0.refl _|apply Drawn0.step)⟩
       ·
        rw [if_neg c7] at H;exact absurd H (by simp)
      ·
       rw [if_neg c6] at H;exact absurd H (by simp)
     ·
      rw [if_neg c5] at H;exact absurd H (by simp)
    ·
     rw [if_neg c4] at H;have c4b0:=decide_eq_false c4;clear c4;obtain rfl:=Option.some.inj H;go_wp2
     repeat (go_quiet (fail);try go_wp2)
     go_ret
     exact ⟨by first|rfl|(simp;done)|(simp [*];done),by repeat (first|exact Drawn0.refl _|apply Drawn0.step)⟩
 ·
  rw [if_neg c3] at H;have c3b0:((l0.length:Int)==(l1.length:Int))=false:=beq_eq_false_iff_ne.mpr c3;have c3b1:((l0.length:Int) !=(l1.length:Int))=true:=bne_iff_ne.mpr c3;have c3b2:(l0.length==l1.length)=false:=by first|simpa using c3|(simp at c3 ⊢;omega)
  obtain rfl:=Option.some.inj H;go_enter Try.func12,Try.ntmps12;go_wp2
  repeat (go_quiet (fail);try go_wp2)
  go_ret
  exact ⟨by first|rfl|(simp;done)|(simp [*];done),by repeat (first|exact Drawn0.refl _|apply Drawn0.step)⟩
end Go.Proofs.Ytkgngggppcmpfaa.L
end
section
namespace Go.Proofs.Ytkgngggppcmpfaa.L
open Go.RowKit Go.Proofs.YtkgngggppcmpfaaW.PrintWords Go.Proofs.YtkgngggppcmpfaaW.PrintLast Go.Proofs.YtkgngggppcmpfaaW.PrintMore Go.Proofs.Ytkgngggppcmpfaa.X
attribute [local go_sem] Qbd Qbf Qbn Qbo Q3 Q4 Qbe Qbg
set_option linter.unusedVariables false
set_option linter.unusedSimpArgs false
def Qct.l0:Nat→List (List Int)→List (List Int)→Int→Int→Option (Bool)
 |0,_,_,_,_=>none
 |k+1,x0,x1,x12,x13=>if x13<x12 then (if 0≤x13 then (if x13<(x0.length:Int) then (if x13<(x1.length:Int) then ((Qbu.f k (Qce x0 x13) (Qce x1 x13)).bind fun t105=>(if t105=true then (Qct.l0 k x0 x1 x12 (wrap64 (x13+1))) else (some false))) else (none)) else (none)) else (none)) else (some true)
def Qct.f (k:Nat) (l0:List (List Int)) (l1:List (List Int)):Option (Bool):=if (l0.length:Int)=(l1.length:Int) then (Qct.l0 k l0 l1 (l0.length:Int) 0) else (some false)
theorem Qct.mono_l: ∀ k,(∀ y0 y1 y2 y3,LeO (Qct.l0 k y0 y1 y2 y3) (Qct.l0 (k+1) y0 y1 y2 y3))
 |0=>fun _ _ _ _ r h=>by simp [Qct.l0] at h
 |k+1=>by
  have ih0:=Qct.mono_l k
  ·
   intro y0 y1 y2 y3;unfold Qct.l0
   repeat' first
   |(with_reducible exact ih0 _ _ _ _)
   |(with_reducible exact Qbu.mono _ _ _)
   |(with_reducible exact LeO.refl _)
   |(with_reducible exact LeO.none _)
   |(with_reducible refine LeO.ite ?_ ?_)
   |(with_reducible refine LeO.bind ?_ (fun _=> ?_))
   |exact ih0 _ _ _ _
   |exact Qbu.mono _ _ _
   |exact LeO.none _
   |refine LeO.ite ?_ ?_
   |refine LeO.bind ?_ (fun _=> ?_)
theorem Qct.mono: ∀ a0 a1 k,LeO (Qct.f k a0 a1) (Qct.f (k+1) a0 a1):=by
 intro a0 a1 k;have ih0:=Qct.mono_l k;unfold Qct.f
 repeat' (with_reducible first|apply ih0|apply Qbu.mono|exact LeO.refl _|exact LeO.none _|refine LeO.ite ?_ ?_|refine LeO.bind ?_ (fun _=> ?_))
set_option maxHeartbeats 8000000 in
set_option maxRecDepth 100000 in
theorem Qct.calls (k:Nat) (A0:Option Addr) (c0:Nat) (l0:List (List Int)) (A1:Option Addr) (c1:Nat) (l1:List (List Int)) (r:Bool) (w:World) (hr0:Kd.C (Kd.slice 3 (Kd.int .i64)) w A0 l0.length l0) (hc0:l0.length≤c0) (hr1:Kd.C (Kd.slice 3 (Kd.int .i64)) w A1 l1.length l1) (hc1:l1.length≤c1) (h:Qct.f k l0 l1=some r):
 Calls Try.prog 10 #[.slice A0 l0.length c0, .slice A1 l1.length c1] w fun e w'=>e= .returned (.bool r)∧Drawn0 w w':=by
 have HR0:=Zk hr0;have HC0:=Zk hc0;clear hr0 hc0;have HR1:=Zk hr1;have HC1:=Zk hc1;clear hr1 hc1;have H:(if (l0.length:Int)=(l1.length:Int) then (Qct.l0 k l0 l1 (l0.length:Int) 0) else (some false))=some r:=h;clear h
 by_cases c3:(l0.length:Int)=(l1.length:Int)
 ·
  rw [if_pos c3] at H;have c3b0:((l0.length:Int)==(l1.length:Int))=true:=beq_iff_eq.mpr c3;have c3b1:((l0.length:Int) !=(l1.length:Int))=false:=bne_eq_false_iff_eq.mpr c3;have c3b2:(l0.length==l1.length)=true:=by first|simpa using c3|(simp at c3 ⊢;omega)
  clear c3;have H':=Zk H;clear H;go_enter Try.func10,Try.ntmps10;go_wp2
  repeat (go_quiet (fail);try go_wp2)
  go_loopg [13] k (fun kq v13 w'=> ∃ (x13_1:Int),v13= .int .i64 x13_1∧Z0 (Qct.l0 kq l0 l1 (l0.length:Int) x13_1=some r)∧Z0 (kq≤k)∧Drawn0 w w')
  case atStart=>exact ⟨(0),(by first|rfl|(simp;done)|(simp [*];done)),H',⟨Nat.le_refl _⟩,by repeat (first|exact Drawn0.refl _|apply Drawn0.step)⟩
  case round=>
   clear H'
   try clear c3b0 c3b1 c3b2
   obtain ⟨x13_1,rfl,HA,HK1,⟨m1,rfl⟩⟩:=hrel;cases gk with
   |zero=>exact absurd HA.out (by simp [Qct.l0])
   |succ k1=>
    have H:=HA.out;clear HA;simp only [Qct.l0] at H
    by_cases c4:x13_1<(l0.length:Int)
    ·
     rw [if_pos c4] at H;have c4b0:=decide_eq_true c4;clear c4
     by_cases c5:0≤x13_1
     ·
      rw [if_pos c5] at H;have c5b0:=decide_eq_true c5;clear c5
      by_cases c6:x13_1<(l0.length:Int)
      ·
       rw [if_pos c6] at H;have c6b0:=decide_eq_true c6;clear c6
       by_cases c7:x13_1<(l1.length:Int)
       ·
        rw [if_pos c7] at H;have c7b0:=decide_eq_true c7;clear c7;obtain ⟨t105,A8,H⟩:=bs H;(try dsimp only at H)
        by_cases c9:t105=true
        ·
         subst c9;rw [if_pos rfl] at H;have H':=Zk H;clear H;have p103:0≤(x13_1:Int):=of_decide_eq_true (by first|(with_reducible assumption)|assumption);have q103:x13_1<(l0.length:Int):=of_decide_eq_true (by first|(with_reducible assumption)|assumption);obtain ⟨ad103,A103_0,c103_0,e103,hx103_0,hl103_0,hi103_0⟩:=Qhx HR0.out x13_1 p103 q103;cases e103;have HR103_0:=Zk hi103_0;have HC103_0:=Zk hl103_0;clear hi103_0 hl103_0;replace p103:=eq_true p103;replace q103:=eq_true q103;have p104:0≤(x13_1:Int):=of_decide_eq_true (by first|(with_reducible assumption)|assumption);have q104:x13_1<(l1.length:Int):=of_decide_eq_true (by first|(with_reducible assumption)|assumption);obtain ⟨ad104,A104_0,c104_0,e104,hx104_0,hl104_0,hi104_0⟩:=Qhx HR1.out x13_1 p104 q104;cases e104;have HR104_0:=Zk hi104_0;have HC104_0:=Zk hl104_0;clear hi104_0 hl104_0;replace p104:=eq_true p104;replace q104:=eq_true q104;go_wp2_with (first|(go_at_call 12;(with_reducible refine (Qbu.calls k1 _ _ (Qce l0 x13_1) _ _ (Qce l1 x13_1) true _ (uC HR103_0) HC103_0.out (uC HR104_0) HC104_0.out A8.out).mono ?_);rintro e w' ⟨rfl,⟨nd,rfl⟩⟩;(try first|exact ⟨rfl,_,World.drewN_drewN _ _ _⟩|exact ⟨rfl,_,Eq.trans (World.drewN_drewN _ _ _) (congrArg (World.drewN _) (Nat.add_assoc _ _ _))⟩)))
         repeat (go_quiet (first|(go_at_call 12;(with_reducible refine (Qbu.calls k1 _ _ (Qce l0 x13_1) _ _ (Qce l1 x13_1) true _ (uC HR103_0) HC103_0.out (uC HR104_0) HC104_0.out A8.out).mono ?_);rintro e w' ⟨rfl,⟨nd,rfl⟩⟩;(try first|exact ⟨rfl,_,World.drewN_drewN _ _ _⟩|exact ⟨rfl,_,Eq.trans (World.drewN_drewN _ _ _) (congrArg (World.drewN _) (Nat.add_assoc _ _ _))⟩)));try go_wp2_with (first|(go_at_call 12;(with_reducible refine (Qbu.calls k1 _ _ (Qce l0 x13_1) _ _ (Qce l1 x13_1) true _ (uC HR103_0) HC103_0.out (uC HR104_0) HC104_0.out A8.out).mono ?_);rintro e w' ⟨rfl,⟨nd,rfl⟩⟩;(try first|exact ⟨rfl,_,World.drewN_drewN _ _ _⟩|exact ⟨rfl,_,Eq.trans (World.drewN_drewN _ _ _) (congrArg (World.drewN _) (Nat.add_assoc _ _ _))⟩))))
         go_roundg k1
         case measure=>have:=HK1.out;omega
         case rel=>exact ⟨(wrap64 (x13_1+1)),(by first|rfl|(simp;done)|(simp [*];done)),H',⟨by have:=HK1.out;omega⟩,by repeat (first|exact Drawn0.refl _|apply Drawn0.step)⟩
        ·
         replace c9:=Bool.eq_false_iff.mpr c9;subst c9;rw [if_neg (show ¬ (false=true) by decide)] at H;obtain rfl:=Option.some.inj H;have p103:0≤(x13_1:Int):=of_decide_eq_true (by first|(with_reducible assumption)|assumption);have q103:x13_1<(l0.length:Int):=of_decide_eq_true (by first|(with_reducible assumption)|assumption);obtain ⟨ad103,A103_0,c103_0,e103,hx103_0,hl103_0,hi103_0⟩:=Qhx HR0.out x13_1 p103 q103;cases e103;have HR103_0:=Zk hi103_0;have HC103_0:=Zk hl103_0;clear hi103_0 hl103_0;replace p103:=eq_true p103;replace q103:=eq_true q103;have p104:0≤(x13_1:Int):=of_decide_eq_true (by first|(with_reducible assumption)|assumption);have q104:x13_1<(l1.length:Int):=of_decide_eq_true (by first|(with_reducible assumption)|assumption);obtain ⟨ad104,A104_0,c104_0,e104,hx104_0,hl104_0,hi104_0⟩:=Qhx HR1.out x13_1 p104 q104;cases e104;have HR104_0:=Zk hi104_0;have HC104_0:=Zk hl104_0;clear hi104_0 hl104_0;replace p104:=eq_true p104;replace q104:=eq_true q104;go_wp2_with (first|(go_at_call 12;(with_reducible refine (Qbu.calls k1 _ _ (Qce l0 x13_1) _ _ (Qce l1 x13_1) false _ (uC HR103_0) HC103_0.out (uC HR104_0) HC104_0.out A8.out).mono ?_);rintro e w' ⟨rfl,⟨nd,rfl⟩⟩;(try first|exact ⟨rfl,_,World.drewN_drewN _ _ _⟩|exact ⟨rfl,_,Eq.trans (World.drewN_drewN _ _ _) (congrArg (World.drewN _) (Nat.add_assoc _ _ _))⟩)))
         repeat (go_quiet (first|(go_at_call 12;(with_reducible refine (Qbu.calls k1 _ _ (Qce l0 x13_1) _ _ (Qce l1 x13_1) false _ (uC HR103_0) HC103_0.out (uC HR104_0) HC104_0.out A8.out).mono ?_);rintro e w' ⟨rfl,⟨nd,rfl⟩⟩;(try first|exact ⟨rfl,_,World.drewN_drewN _ _ _⟩|exact ⟨rfl,_,Eq.trans (World.drewN_drewN _ _ _) (congrArg (World.drewN _) (Nat.add_assoc _ _ _))⟩)));try go_wp2_with (first|(go_at_call 12;(with_reducible refine (Qbu.calls k1 _ _ (Qce l0 x13_1) _ _ (Qce l1 x13_1) false _ (uC HR103_0) HC103_0.out (uC HR104_0) HC104_0.out A8.out).mono ?_);rintro e w' ⟨rfl,⟨nd,rfl⟩⟩;(try first|exact ⟨rfl,_,World.drewN_drewN _ _ _⟩|exact ⟨rfl,_,Eq.trans (World.drewN_drewN _ _ _) (congrArg (World.drewN _) (Nat.add_assoc _ _ _))⟩))))
         go_ret
         exact ⟨by first|rfl|(simp;done)|(simp [*];done),by repeat (first|exact Drawn0.refl _|apply Drawn0.step)⟩
       ·
        rw [if_neg c7] at H;exact absurd H (by simp)
      ·
       rw [if_neg c6] at H;exact absurd H (by simp)
     ·
      rw [if_neg c5] at H;exact absurd H (by simp)
    ·
     rw [if_neg c4] at H;have c4b0:=decide_eq_false c4;clear c4;obtain rfl:=Option.some.inj H;go_wp2
     repeat (go_quiet (fail);try go_wp2)
     go_ret
     exact ⟨by first|rfl|(simp;done)|(simp [*];done),by repeat (first|exact Drawn0.refl _|apply Drawn0.step)⟩
 ·
  rw [if_neg c3] at H;have c3b0:((l0.length:Int)==(l1.length:Int))=false:=beq_eq_false_iff_ne.mpr c3;have c3b1:((l0.length:Int) !=(l1.length:Int))=true:=bne_iff_ne.mpr c3;have c3b2:(l0.length==l1.length)=false:=by first|simpa using c3|(simp at c3 ⊢;omega)
  obtain rfl:=Option.some.inj H;go_enter Try.func10,Try.ntmps10;go_wp2
  repeat (go_quiet (fail);try go_wp2)
  go_ret
  exact ⟨by first|rfl|(simp;done)|(simp [*];done),by repeat (first|exact Drawn0.refl _|apply Drawn0.step)⟩
def Qb1.f (l0_0:List Int):Option (Int):=some (l0_0.length:Int)
set_option maxHeartbeats 8000000 in
set_option maxRecDepth 100000 in
theorem Qb1.calls (A0_0:Option Addr) (c0_0:Nat) (l0_0:List Int) (r:Int) (w:World) (hr0_0:Kd.C (Kd.int .i64) w A0_0 l0_0.length l0_0) (hc0_0:l0_0.length≤c0_0) (h:Qb1.f l0_0=some r):
 Calls Try.prog 65 #[.agg #[.slice A0_0 l0_0.length c0_0]] w fun e w'=>e= .returned (.int .i64 r)∧Below w.heap.size w w':=by
 have hu26:=Try.underlying26;have HR0_0:=Zk hr0_0;have HC0_0:=Zk hc0_0;clear hr0_0 hc0_0;have HB:=Zk (Below.refl w.heap.size w);have H:(some (l0_0.length:Int))=some r:=h;clear h;obtain rfl:=Option.some.inj H;go_enter Try.func65,Try.ntmps65;go_wp2_with (first|(refine bE (N:=1) (cs:= #[.slice A0_0 l0_0.length c0_0]) (t:=26) ?_;intro gb106 hg w2 hbox hb;have BK106:=Zk (hbox);have GW106:=Zk ((by rw [hg];exact (Qh (uB HB)):w.heap.size≤gb106));have GE106:=GW106;replace HB:=Zk (Qc (uB HB) hb);clear hb hbox hg;have hcz3_0:=bC BK106;have hfz3_0:=Qg BK106.out 0))
 go_ret
 exact ⟨by first|rfl|(simp [Qe,Qf] <;>rfl)|(simp [*,Qe,Qf] <;>rfl),(vB HB)⟩
end Go.Proofs.Ytkgngggppcmpfaa.L
end
section
namespace Go.Proofs.Ytkgngggppcmpfaa.L
open Go.RowKit Go.Proofs.YtkgngggppcmpfaaW.PrintWords Go.Proofs.YtkgngggppcmpfaaW.PrintLast Go.Proofs.YtkgngggppcmpfaaW.PrintMore
attribute [local go_sem] Qbd Qbf Qbn Qbo Q3 Q4 Qbe Qbg
set_option linter.unusedVariables false
set_option linter.unusedSimpArgs false
def Qcd.f (a0:Int) (a1:Int) (a2:Int):Option (Bool):=if a1≤a0 then (some (decide (a0≤a2))) else (some false)
set_option maxHeartbeats 8000000 in
set_option maxRecDepth 100000 in
theorem Qcd.calls (a0:Int) (a1:Int) (a2:Int) (r:Bool) (w:World) (h:Qcd.f a0 a1 a2=some r):
 Calls Try.prog 81 #[.int .i64 a0, .int .i64 a1, .int .i64 a2] w fun e w'=>e= .returned (.bool r)∧Drawn0 w w':=by
 have H:(if a1≤a0 then (some (decide (a0≤a2))) else (some false))=some r:=h;clear h
 by_cases c4:a1≤a0
 ·
  rw [if_pos c4] at H;have c4b0:=decide_eq_true c4;clear c4;obtain rfl:=Option.some.inj H;go_enter Try.func81,Try.ntmps81;go_wp2
  go_ret
  exact ⟨by first|rfl|(simp;done)|(simp [*];done),by repeat (first|exact Drawn0.refl _|apply Drawn0.step)⟩
 ·
  rw [if_neg c4] at H;have c4b0:=decide_eq_false c4;clear c4;obtain rfl:=Option.some.inj H;go_enter Try.func81,Try.ntmps81;go_wp2
  go_ret
  exact ⟨by first|rfl|(simp;done)|(simp [*];done),by repeat (first|exact Drawn0.refl _|apply Drawn0.step)⟩
def Qel.f (a0:Int) (a1:Int):Option (Bool):=if 0≤a1 then (some ((Go.bits .and .i64 (shr .i64 a0 a1) 1)==1)) else (none)
set_option maxHeartbeats 8000000 in
set_option maxRecDepth 100000 in
theorem Qel.calls (a0:Int) (a1:Int) (r:Bool) (w:World) (h:Qel.f a0 a1=some r):
 Calls Try.prog 104 #[.int .i64 a0, .int .i64 a1] w fun e w'=>e= .returned (.bool r)∧Drawn0 w w':=by
 have H:(if 0≤a1 then (some ((Go.bits .and .i64 (shr .i64 a0 a1) 1)==1)) else (none))=some r:=h;clear h
 by_cases c3:0≤a1
 ·
  rw [if_pos c3] at H;have c3b0:=eq_true c3;have c3b1:=decide_eq_true c3;clear c3;obtain ⟨ji4,hji4⟩: ∃ j_:Int,(shr .i64 a0 a1)=j_:=⟨_,rfl⟩
  replace H:(some ((Go.bits .and .i64 (ji4) 1)==1))=some r:=by first|(rw [hji4] at H;exact H)|(simp only [hji4] at H ⊢;exact H)
  have hji4_:(a0 / 2 ^ min a1.toNat 64)=ji4:=hji4;have hji4z:a1≤64→(a0 / 2 ^ a1.toNat)=ji4:=Qir hji4;obtain rfl:=Option.some.inj H;go_enter Try.func104,Try.ntmps104;go_wp2
  go_ret
  exact ⟨by first|rfl|(simp;done)|(simp only [←hji4] <;>(first|rfl|simp))|(simp [*];done),by repeat (first|exact Drawn0.refl _|apply Drawn0.step)⟩
 ·
  rw [if_neg c3] at H;exact absurd H (by simp)
end Go.Proofs.Ytkgngggppcmpfaa.L
end
section
namespace Go.Proofs.Ytkgngggppcmpfaa.L
open Go.RowKit Go.Proofs.YtkgngggppcmpfaaW.PrintWords Go.Proofs.YtkgngggppcmpfaaW.PrintLast Go.Proofs.YtkgngggppcmpfaaW.PrintMore Go.Proofs.Ytkgngggppcmpfaa.X
attribute [local go_sem] Qbd Qbf Qbn Qbo Q3 Q4 Qbe Qbg
set_option linter.unusedVariables false
set_option linter.unusedSimpArgs false
def Qbr.l0:Nat→Int→List Int→Int→Option (List Int)
 |0,_,_,_=>none
 |k+1,x0,x3,x6=>if x6<10 then ((Qel.f x0 x6).bind fun t110=>(if t110=true then (if x3.length<17592186044416 then (Qbr.l0 k x0 (x3++ [x6]) (wrap64 (x6+1))) else (none)) else (Qbr.l0 k x0 x3 (wrap64 (x6+1))))) else (some x3)
def Qbr.f (k:Nat) (a0:Int):Option (List Int):=Qbr.l0 k a0 (([] :List Int)) 0
theorem Qbr.mono_l: ∀ k,(∀ y0 y1 y2,LeO (Qbr.l0 k y0 y1 y2) (Qbr.l0 (k+1) y0 y1 y2))
 |0=>fun _ _ _ r h=>by simp [Qbr.l0] at h
 |k+1=>by
  have ih0:=Qbr.mono_l k
  ·
   intro y0 y1 y2;unfold Qbr.l0
   repeat' first
   |(with_reducible exact ih0 _ _ _)
   |(with_reducible exact LeO.refl _)
   |(with_reducible exact LeO.none _)
   |(with_reducible refine LeO.ite ?_ ?_)
   |(with_reducible refine LeO.bind ?_ (fun _=> ?_))
   |exact ih0 _ _ _
   |exact LeO.none _
   |refine LeO.ite ?_ ?_
   |refine LeO.bind ?_ (fun _=> ?_)
theorem Qbr.mono: ∀ a0 k,LeO (Qbr.f k a0) (Qbr.f (k+1) a0):=by
 intro a0 k;have ih0:=Qbr.mono_l k;unfold Qbr.f
 repeat' (with_reducible first|apply ih0|exact LeO.refl _|exact LeO.none _|refine LeO.ite ?_ ?_|refine LeO.bind ?_ (fun _=> ?_))
set_option maxHeartbeats 8000000 in
set_option maxRecDepth 100000 in
theorem Qbr.calls (k:Nat) (a0:Int) (r:List Int) (w:World) (h:Qbr.f k a0=some r):
 Calls Try.prog 116 #[.int .i64 a0] w fun e w'=> ∃ v0_:Value,e= .returned (v0_)∧Kd.R (Kd.int .i64) 3 w' w.heap.size (fun _=>True) v0_ r∧Below w.heap.size w w':=by
 have HB:=Zk (Below.refl w.heap.size w);have H:(Qbr.l0 k a0 (([] :List Int)) 0)=some r:=h;clear h;obtain ⟨y107,hy107⟩: ∃ y_:List Int,y_=(([] :List Int)):=⟨_,rfl⟩
 replace H:(Qbr.l0 k a0 y107 0)=some r:=by first|(rw [hy107];with_reducible exact H)|(have H2_:=(Option.bind_some _ _).symm.trans H;rw [hy107];with_reducible exact H2_)|(have H2_:=(Option.bind_some _ _).symm.trans H;with_reducible exact H2_)|with_reducible exact H|(rw [hy107];exact H)|exact H
 have Ny107:=Zk hy107;clear hy107;have H':=Zk H;clear H;go_enter Try.func116,Try.ntmps116;go_wp2_with (first|((with_reducible refine Qb2 (N:=5) rfl ?_);refine Kd.R_lit (Kd.int .i64) _ 3 ?hg (N:=5) ?hd (xs:=([] :List Int)) (inner:= []) (ok:=fun _=>True) (okp:=fun _=>True) ?hr ?hp (fun _ hk=>hk) trivial (Below.refl _ _) (Nat.le_refl _) (by simp) ?_;(case hd=>rfl);(case hg=>rfl);(case hr=>first|(go_simp;done)|(go_simp;rfl));(case hp=>exact (Reps.none _ _));intro v108 w2 ho3 hb hg_ hnew_;clear hg_ hnew_;(first|rw [←Ny107.out] at ho3|(simp only [Int.reduceToNat] at ho3;rw [←Ny107.out] at ho3));have HO109:=Zk (Kd.R_lower ho3 (Qh (uB HB)));replace HB:=Zk (Qc (uB HB) hb);clear hb ho3))
 go_loopg [3,6] k (fun kq v3 v6 w'=> ∃ (x3_1:List Int) (x6_1:Int),v6= .int .i64 x6_1∧Z0 (Qbr.l0 kq a0 x3_1 x6_1=some r)∧Z0 (kq≤k)∧Z0 (Kd.R (Kd.int .i64) 3 w' w.heap.size (fun _=>True) v3 x3_1)∧Z0 (Below w.heap.size w w'))
 case atStart=>exact ⟨(y107),(0),(by first|rfl|(simp;done)|(simp [*];done)),H',⟨Nat.le_refl _⟩,⟨uR HO109⟩,⟨uB HB⟩⟩
 case round=>
  clear H'
  skip
  obtain ⟨x3_1,x6_1,rfl,HA,HK1,HO_3,HB⟩:=hrel;cases gk with
  |zero=>exact absurd HA.out (by simp [Qbr.l0])
  |succ k1=>
   have H:=HA.out;clear HA;simp only [Qbr.l0] at H
   by_cases c4:x6_1<10
   ·
    rw [if_pos c4] at H;have c4b0:=decide_eq_true c4;clear c4;obtain ⟨t110,A5,H⟩:=bs H;(try dsimp only at H)
    by_cases c6:t110=true
    ·
     subst c6;rw [if_pos rfl] at H
     by_cases c7:x3_1.length<17592186044416
     ·
      rw [if_pos c7] at H;have LMc7:=Zk c7;clear c7;obtain ⟨y111,hy111⟩: ∃ y_:List Int,y_=(x3_1++ [x6_1]):=⟨_,rfl⟩
      replace H:(Qbr.l0 k1 a0 y111 (wrap64 (x6_1+1)))=some r:=by first|(rw [hy111];with_reducible exact H)|(have H2_:=(Option.bind_some _ _).symm.trans H;rw [hy111];with_reducible exact H2_)|(have H2_:=(Option.bind_some _ _).symm.trans H;with_reducible exact H2_)|with_reducible exact H|(rw [hy111];exact H)|exact H
      have Ny111:=Zk hy111;clear hy111;have H':=Zk H;clear H;go_wp2_with (first|(refine gA (some 11) Try.func104 #[.int .i64 a0, .int .i64 x6_1] ?_;(with_reducible refine (Qel.calls a0 x6_1 true _ A5.out).mono ?_);rintro e w' ⟨rfl,⟨nd,rfl⟩⟩;refine ⟨_,rfl,?_⟩)|((with_reducible refine Qcl (b:= .append) (xs:= #[.tmp 12, .tmp 14]) rfl ?_);at_builtin;refine Kd.R_append (Kd.int .i64) (w0:=w) w.heap.size rfl (.tmp 12) (.tmp 14) 24 3 (.int .i64 0) 8 rfl Try.underlying24 Qed rfl (by decide) (by omega) u3 x3_1 x6_1 [.int .i64 x6_1] (fun _=>True) (fun _=>False) rfl rfl ?aP (fun _ hk=>hk.elim) ?aF ?aO ?aB ?aS ?aL ?_;(case aP=>exact rfl);(case aB=>exact (uB HB));(case aF=>exact (fun _ _=>trivial));(case aO=>exact (uR HO_3));(case aS=>exact (Qh (uB HB)));(case aL=>have:=LMc7.out;omega);intro v112 w8 ho hb hg hat;rw [←Ny111.out] at ho;replace HB:=Zk (hb);have HO113:=Zk (ho);clear HO_3;clear ho hb hg hat));go_roundg k1
      case measure=>have:=HK1.out;omega
      case rel=>exact ⟨(y111),(wrap64 (x6_1+1)),(by first|rfl|(simp;done)|(simp [*];done)),H',⟨by have:=HK1.out;omega⟩,⟨uR HO113⟩,⟨uB HB⟩⟩
     ·
      rw [if_neg c7] at H;exact absurd H (by simp)
    ·
     replace c6:=Bool.eq_false_iff.mpr c6;subst c6;rw [if_neg (show ¬ (false=true) by decide)] at H;have H':=Zk H;clear H;go_wp2_with (first|(refine gA (some 11) Try.func104 #[.int .i64 a0, .int .i64 x6_1] ?_;(with_reducible refine (Qel.calls a0 x6_1 false _ A5.out).mono ?_);rintro e w' ⟨rfl,⟨nd,rfl⟩⟩;refine ⟨_,rfl,?_⟩));go_roundg k1
     case measure=>have:=HK1.out;omega
     case rel=>exact ⟨(x3_1),(wrap64 (x6_1+1)),(by first|rfl|(simp;done)|(simp [*];done)),H',⟨by have:=HK1.out;omega⟩,⟨uR HO_3⟩,⟨uB HB⟩⟩
   ·
    rw [if_neg c4] at H;have c4b0:=decide_eq_false c4;clear c4;obtain rfl:=Option.some.inj H;go_wp2
    go_ret
    exact ⟨_,by first|rfl|(simp [Qe,Qf] <;>rfl)|(simp [*,Qe,Qf] <;>rfl),uR HO_3,uB HB⟩
mutual
def Q6.l0:Nat→List Int→Int→Int→List Int→Option (Bool)
 |0,_,_,_,_=>none
 |k+1,x12,x13,x14,x115000=>if x14<x13 then (if 0≤x14 then (if x14<(x12.length:Int) then ((Qcd.f (rd x12 x14) 0 (wrap64 ((shl .i64 1 x14) - 1))).bind fun t118=>(if t118=true then ((Qbr.f k (rd x12 x14)).bind fun t119=>(Q6.l1 k (rd x12 x14) x12 x13 x14 t119 (t119.length:Int) 0 x115000)) else (some false))) else (none)) else (none)) else (some true)
def Q6.l1:Nat→Int→List Int→Int→Int→List Int→Int→Int→List Int→Option (Bool)
 |0,_,_,_,_,_,_,_,_=>none
 |k+1,x4,x12,x13,x14,x26,x27,x28,x115000=>if x28<x27 then (if 0≤x28 then (if x28<(x26.length:Int) then (if 0≤(rd x26 x28) then (if (rd x26 x28)<(x115000.length:Int) then (if (Go.bits .andNot .i64 (rd x115000 (rd x26 x28)) x4)=0 then (Q6.l1 k x4 x12 x13 x14 x26 x27 (wrap64 (x28+1)) x115000) else (some false)) else (none)) else (none)) else (none)) else (none)) else (Q6.l0 k x12 x13 (wrap64 (x14+1)) x115000)
end
def Q6.f (k:Nat) (l0_0:List Int):Option (Bool):=(Qb1.f l0_0).bind fun t115=>((Qcd.f t115 1 10).bind fun t116=>(if t116=true then (Q6.l0 k l0_0 (l0_0.length:Int) 0 l0_0) else (some false)))
theorem Q6.mono_l: ∀ k,(∀ y0 y1 y2 y3,LeO (Q6.l0 k y0 y1 y2 y3) (Q6.l0 (k+1) y0 y1 y2 y3))∧(∀ y0 y1 y2 y3 y4 y5 y6 y7,LeO (Q6.l1 k y0 y1 y2 y3 y4 y5 y6 y7) (Q6.l1 (k+1) y0 y1 y2 y3 y4 y5 y6 y7))
 |0=>⟨fun _ _ _ _ r h=>by simp [Q6.l0] at h,fun _ _ _ _ _ _ _ _ r h=>by simp [Q6.l1] at h⟩
 |k+1=>by
  obtain ⟨ih0,ih1⟩:=Q6.mono_l k;refine ⟨?_,?_⟩
  all_goals
   intros
   first|unfold Q6.l0|unfold Q6.l1
   repeat' (with_reducible first|apply ih0|apply ih1|apply Qbr.mono|exact LeO.refl _|exact LeO.none _|refine LeO.ite ?_ ?_|refine LeO.bind ?_ (fun _=> ?_))
theorem Q6.mono: ∀ a0 k,LeO (Q6.f k a0) (Q6.f (k+1) a0):=by
 intro a0 k;obtain ⟨ih0,ih1⟩:=Q6.mono_l k;unfold Q6.f
 repeat' (with_reducible first|apply ih0|apply ih1|apply Qbr.mono|exact LeO.refl _|exact LeO.none _|refine LeO.ite ?_ ?_|refine LeO.bind ?_ (fun _=> ?_))
set_option maxHeartbeats 8000000 in
set_option maxRecDepth 100000 in
theorem Q6.calls (k:Nat) (A0_0:Option Addr) (c0_0:Nat) (l0_0:List Int) (r:Bool) (w:World) (hr0_0:Kd.C (Kd.int .i64) w A0_0 l0_0.length l0_0) (hc0_0:l0_0.length≤c0_0) (h:Q6.f k l0_0=some r):
 Calls Try.prog 75 #[.agg #[.slice A0_0 l0_0.length c0_0]] w fun e w'=>e= .returned (.bool r)∧Below w.heap.size w w':=by
 have hu26:=Try.underlying26;have HR0_0:=Zk hr0_0;have HC0_0:=Zk hc0_0;clear hr0_0 hc0_0;have HB:=Zk (Below.refl w.heap.size w);have H:((Qb1.f l0_0).bind fun t115=>((Qcd.f t115 1 10).bind fun t116=>(if t116=true then (Q6.l0 k l0_0 (l0_0.length:Int) 0 l0_0) else (some false))))=some r:=h;clear h;obtain ⟨t115,A2,H⟩:=bs H;(try dsimp only at H)
 obtain ⟨t116,A3,H⟩:=bs H;(try dsimp only at H)
 by_cases c4:t116=true
 ·
  subst c4;rw [if_pos rfl] at H;have H':=Zk H;clear H;go_enter Try.func75,Try.ntmps75;go_wp2_with (first|(refine bE (N:=1) (cs:= #[.slice A0_0 l0_0.length c0_0]) (t:=26) ?_;intro gb114 hg w5 hbox hb;have BK114:=Zk (hbox);have GW114:=Zk ((by rw [hg];exact (Qh (uB HB)):w.heap.size≤gb114));have GE114:=GW114;replace HB:=Zk (Qc (uB HB) hb);clear hb hbox hg;have hcz6_0:=bC BK114;have hfz6_0:=Qg BK114.out 0)|(refine gA (some 8) Try.func65 #[.agg #[.slice A0_0 l0_0.length c0_0]] ?_;(with_reducible refine (Qb1.calls _ _ l0_0 t115 _ (uD HR0_0 HB) HC0_0.out A2.out).mono ?_);rintro e w7 ⟨rfl,hb⟩;refine ⟨_,rfl,?_⟩;replace BK114:=Zk (Qd (uK BK114) hb);replace HB:=Zk (Qc (vB HB) hb);(try clear hb))|(refine gA (some 9) Try.func81 #[.int .i64 t115, .int .i64 1, .int .i64 10] ?_;(with_reducible refine (Qcd.calls t115 1 10 true _ A3.out).mono ?_);rintro e w' ⟨rfl,⟨nd,rfl⟩⟩;refine ⟨_,rfl,?_⟩;have hcz8_0:=bC BK114;have hfz8_0:=Qg BK114.out 0))
  go_loopg [14] k (fun kq v14 w'=> ∃ (x14_1:Int),v14= .int .i64 x14_1∧Z0 (Q6.l0 kq l0_0 (l0_0.length:Int) x14_1 l0_0=some r)∧Z0 (kq≤k)∧Z0 (w'.heap[gb114]? =some (.cells #[(.slice A0_0 l0_0.length c0_0)] 26 (0,0)))∧Z0 (Below w.heap.size w w'))
  case atStart=>exact ⟨(0),(by first|rfl|(simp;done)|(simp [*];done)),H',⟨Nat.le_refl _⟩,⟨uK BK114⟩,⟨(vB HB)⟩⟩
  case round=>
   clear H'
   try clear hcz6_0 hcz8_0 hfz6_0 hfz8_0
   obtain ⟨x14_1,rfl,HA,HK1,BK114,HB⟩:=hrel;cases gk with
   |zero=>exact absurd HA.out (by simp [Q6.l0])
   |succ k1=>
    have H:=HA.out;clear HA;simp only [Q6.l0] at H
    by_cases c9:x14_1<(l0_0.length:Int)
    ·
     rw [if_pos c9] at H;have c9b0:=decide_eq_true c9;clear c9
     by_cases c10:0≤x14_1
     ·
      rw [if_pos c10] at H;have c10b0:=decide_eq_true c10;clear c10
      by_cases c11:x14_1<(l0_0.length:Int)
      ·
       rw [if_pos c11] at H;have c11b0:=decide_eq_true c11;clear c11;have c12b0:=eq_true (of_decide_eq_true (by first|(with_reducible assumption)|assumption):0≤x14_1);obtain ⟨ji13,hji13⟩: ∃ j_:Int,(shl .i64 1 x14_1)=j_:=⟨_,rfl⟩
       replace H:((Qcd.f (rd l0_0 x14_1) 0 (wrap64 ((ji13) - 1))).bind fun t118=>(if t118=true then ((Qbr.f k1 (rd l0_0 x14_1)).bind fun t119=>(Q6.l1 k1 (rd l0_0 x14_1) l0_0 (l0_0.length:Int) x14_1 t119 (t119.length:Int) 0 l0_0)) else (some false)))=some r:=by first|(rw [hji13] at H;exact H)|(simp only [hji13] at H ⊢;exact H)
       have hji13_:(IntKind.i64.wrap (1*2 ^ min x14_1.toNat 64))=ji13:=hji13;have hji13z:x14_1≤64→(IntKind.i64.wrap (1*2 ^ x14_1.toNat))=ji13:=Qeb hji13;have hji13u:(IntKind.i64.wrap (2 ^ min x14_1.toNat 64))=ji13:=by have h_:=hji13_;rw [Int.one_mul] at h_;exact h_
       have hji13v:x14_1≤64→(IntKind.i64.wrap (2 ^ x14_1.toNat))=ji13:=fun hle_=>by have h_:=hji13z hle_;rw [Int.one_mul] at h_;exact h_
       have hji13y:(wrap64 (1*2 ^ min x14_1.toNat 64))=ji13:=(Qci _).symm.trans hji13_;have hji13x:x14_1≤64→(wrap64 (1*2 ^ x14_1.toNat))=ji13:=fun h_=>(Qci _).symm.trans (hji13z h_)
       obtain ⟨t118,A14,H⟩:=bs H;(try dsimp only at H)
       by_cases c15:t118=true
       ·
        subst c15;rw [if_pos rfl] at H;obtain ⟨t119,A16,H⟩:=bs H;(try dsimp only at H)
        have H':=Zk H;clear H;have p117:0≤(x14_1:Int):=of_decide_eq_true (by first|(with_reducible assumption)|assumption);have q117:x14_1<(l0_0.length:Int):=of_decide_eq_true (by first|(with_reducible assumption)|assumption);obtain ⟨ad117,e117,hx117_0⟩:=Kd.at_int HR0_0.out x14_1 p117 q117;cases e117;replace hx117_0:=(HB.out.cell (World.block_lt_of_cell? w _ hx117_0)).trans hx117_0;replace p117:=eq_true p117;replace q117:=eq_true q117;go_wp2_with (first|((with_reducible refine Qdx (f:=81) rfl ?_);refine Qe3 (some 23) rfl rfl Try.func81 (by kernel_rfl) rfl #[.int .i64 (rd l0_0 x14_1), .int .i64 0, .int .i64 (wrap64 ((ji13) - 1))] rfl (by (try simp only [List.map_toArray,List.map_cons,List.map_nil]);first|done|(simp only [hji13];rfl)|rfl|(simp only [List.length_drop,List.length_take];rfl)) ?_;(with_reducible refine (Qcd.calls (rd l0_0 x14_1) 0 (wrap64 ((ji13) - 1)) true _ A14.out).mono ?_);rintro e w' ⟨rfl,⟨nd,rfl⟩⟩;refine ⟨_,rfl,?_⟩)|(refine gA (some 26) Try.func116 #[.int .i64 (rd l0_0 x14_1)] ?_;(with_reducible refine (Qbr.calls k1 (rd l0_0 x14_1) t119 _ A16.out).mono ?_);rintro e w17 ⟨v120,rfl,ho0,hb⟩;refine ⟨_,rfl,?_⟩;have HO121:=Zk (Kd.R_lower ho0 (Qh (vB HB)));replace BK114:=Zk (Qd (uK BK114) hb);replace HB:=Zk (Qc (vB HB) hb);(try clear hb ho0);obtain ⟨Ao18,co18,eo18⟩:=Kd.R_slice HO121.out;subst eo18))
        go_loopg [28] k1 (fun kq v28 w'=> ∃ (x28_2:Int),v28= .int .i64 x28_2∧Z0 (Q6.l1 kq (rd l0_0 x14_1) l0_0 (l0_0.length:Int) x14_1 t119 (t119.length:Int) x28_2 l0_0=some r)∧Z0 (kq≤k1)∧Z0 (Kd.R (Kd.int .i64) 3 w' w.heap.size (fun _=>True) (.slice Ao18 t119.length co18) t119)∧Z0 (w'.heap[gb114]? =some (.cells #[(.slice (some ad117) l0_0.length c0_0)] 26 (0,0)))∧Z0 (Below w.heap.size w w'))
        case atStart=>exact ⟨(0),(by first|rfl|(simp;done)|(simp [*];done)),H',⟨Nat.le_refl _⟩,⟨uR HO121⟩,⟨uK BK114⟩,⟨(vB HB)⟩⟩
        case round=>
         clear H'
         try clear c9b0 c10b0 c11b0 c12b0 hx117_0 p117 q117
         obtain ⟨x28_2,rfl,HA,HK2,HO_26,BK114,HB⟩:=hrel;cases gk with
         |zero=>exact absurd HA.out (by simp [Q6.l1])
         |succ k2=>
          have H:=HA.out;clear HA;simp only [Q6.l1] at H
          by_cases c19:x28_2<(t119.length:Int)
          ·
           rw [if_pos c19] at H;have c19b0:=decide_eq_true c19;clear c19
           by_cases c20:0≤x28_2
           ·
            rw [if_pos c20] at H;have c20b0:=decide_eq_true c20;clear c20
            by_cases c21:x28_2<(t119.length:Int)
            ·
             rw [if_pos c21] at H;have c21b0:=decide_eq_true c21;clear c21
             by_cases c22:0≤(rd t119 x28_2)
             ·
              rw [if_pos c22] at H;have c22b0:=decide_eq_true c22;clear c22
              by_cases c23:(rd t119 x28_2)<(l0_0.length:Int)
              ·
               rw [if_pos c23] at H;have c23b0:=decide_eq_true c23;clear c23
               by_cases c24:(Go.bits .andNot .i64 (rd l0_0 (rd t119 x28_2)) (rd l0_0 x14_1))=0
               ·
                rw [if_pos c24] at H;have c24b0:((Go.bits .andNot .i64 (rd l0_0 (rd t119 x28_2)) (rd l0_0 x14_1))==0)=true:=beq_iff_eq.mpr c24;have c24b1:((Go.bits .andNot .i64 (rd l0_0 (rd t119 x28_2)) (rd l0_0 x14_1)) !=0)=false:=bne_eq_false_iff_eq.mpr c24;clear c24;have H':=Zk H;clear H;have p122:0≤(x28_2:Int):=of_decide_eq_true (by first|(with_reducible assumption)|assumption);have q122:x28_2<(t119.length:Int):=of_decide_eq_true (by first|(with_reducible assumption)|assumption);obtain ⟨ad122,e122,hx122_0⟩:=Kd.at_int (Kd.R_reads' HO_26.out).2.2 x28_2 p122 q122;cases e122;replace p122:=eq_true p122;replace q122:=eq_true q122;have hcz25_0:=bC BK114;have hfz25_0:=Qg BK114.out 0;have p123:0≤((rd t119 x28_2):Int):=of_decide_eq_true (by first|(with_reducible assumption)|assumption);have q123:(rd t119 x28_2)<(l0_0.length:Int):=of_decide_eq_true (by first|(with_reducible assumption)|assumption);obtain ⟨ad123,e123,hx123_0⟩:=Kd.at_int HR0_0.out (rd t119 x28_2) p123 q123;obtain rfl:ad117=ad123:=(by injection e123)
                replace hx123_0:=(HB.out.cell (World.block_lt_of_cell? w _ hx123_0)).trans hx123_0;replace p123:=eq_true p123;replace q123:=eq_true q123;go_wp2;go_roundg k2
                case measure=>have:=HK1.out;have:=HK2.out;omega
                case rel=>exact ⟨(wrap64 (x28_2+1)),(by first|rfl|(simp;done)|(simp [*];done)),H',⟨by have:=HK1.out;have:=HK2.out;omega⟩,⟨uR HO_26⟩,⟨uK BK114⟩,⟨(vB HB)⟩⟩
               ·
                rw [if_neg c24] at H;have c24b0:((Go.bits .andNot .i64 (rd l0_0 (rd t119 x28_2)) (rd l0_0 x14_1))==0)=false:=beq_eq_false_iff_ne.mpr c24;have c24b1:((Go.bits .andNot .i64 (rd l0_0 (rd t119 x28_2)) (rd l0_0 x14_1)) !=0)=true:=bne_iff_ne.mpr c24;obtain rfl:=Option.some.inj H;have p122:0≤(x28_2:Int):=of_decide_eq_true (by first|(with_reducible assumption)|assumption);have q122:x28_2<(t119.length:Int):=of_decide_eq_true (by first|(with_reducible assumption)|assumption);obtain ⟨ad122,e122,hx122_0⟩:=Kd.at_int (Kd.R_reads' HO_26.out).2.2 x28_2 p122 q122;cases e122;replace p122:=eq_true p122;replace q122:=eq_true q122;have hcz26_0:=bC BK114;have hfz26_0:=Qg BK114.out 0;have p123:0≤((rd t119 x28_2):Int):=of_decide_eq_true (by first|(with_reducible assumption)|assumption);have q123:(rd t119 x28_2)<(l0_0.length:Int):=of_decide_eq_true (by first|(with_reducible assumption)|assumption);obtain ⟨ad123,e123,hx123_0⟩:=Kd.at_int HR0_0.out (rd t119 x28_2) p123 q123;obtain rfl:ad117=ad123:=(by injection e123)
                replace hx123_0:=(HB.out.cell (World.block_lt_of_cell? w _ hx123_0)).trans hx123_0;replace p123:=eq_true p123;replace q123:=eq_true q123;go_wp2
                go_ret
                exact ⟨by first|rfl|(simp [Qe,Qf] <;>rfl)|(simp only [←hji13];first|rfl|(simp [Qe,Qf] <;>rfl))|(simp [*,Qe,Qf] <;>rfl),(vB HB)⟩
              ·
               rw [if_neg c23] at H;exact absurd H (by simp)
             ·
              rw [if_neg c22] at H;exact absurd H (by simp)
            ·
             rw [if_neg c21] at H;exact absurd H (by simp)
           ·
            rw [if_neg c20] at H;exact absurd H (by simp)
          ·
           rw [if_neg c19] at H;have c19b0:=decide_eq_false c19;clear c19;have H':=Zk H;clear H;go_wp2;go_roundg k2
           case measure=>have:=HK1.out;have:=HK2.out;omega
           case rel=>exact ⟨(wrap64 (x14_1+1)),(by first|rfl|(simp;done)|(simp [*];done)),H',⟨by have:=HK1.out;have:=HK2.out;omega⟩,⟨uK BK114⟩,⟨(vB HB)⟩⟩
       ·
        replace c15:=Bool.eq_false_iff.mpr c15;subst c15;rw [if_neg (show ¬ (false=true) by decide)] at H;obtain rfl:=Option.some.inj H;have p117:0≤(x14_1:Int):=of_decide_eq_true (by first|(with_reducible assumption)|assumption);have q117:x14_1<(l0_0.length:Int):=of_decide_eq_true (by first|(with_reducible assumption)|assumption);obtain ⟨ad117,e117,hx117_0⟩:=Kd.at_int HR0_0.out x14_1 p117 q117;cases e117;replace hx117_0:=(HB.out.cell (World.block_lt_of_cell? w _ hx117_0)).trans hx117_0;replace p117:=eq_true p117;replace q117:=eq_true q117;go_wp2_with (first|((with_reducible refine Qdx (f:=81) rfl ?_);refine Qe3 (some 23) rfl rfl Try.func81 (by kernel_rfl) rfl #[.int .i64 (rd l0_0 x14_1), .int .i64 0, .int .i64 (wrap64 ((ji13) - 1))] rfl (by (try simp only [List.map_toArray,List.map_cons,List.map_nil]);first|done|(simp only [hji13];rfl)|rfl|(simp only [List.length_drop,List.length_take];rfl)) ?_;(with_reducible refine (Qcd.calls (rd l0_0 x14_1) 0 (wrap64 ((ji13) - 1)) false _ A14.out).mono ?_);rintro e w' ⟨rfl,⟨nd,rfl⟩⟩;refine ⟨_,rfl,?_⟩))
        go_ret
        exact ⟨by first|rfl|(simp [Qe,Qf] <;>rfl)|(simp only [←hji13];first|rfl|(simp [Qe,Qf] <;>rfl))|(simp [*,Qe,Qf] <;>rfl),(vB HB)⟩
      ·
       rw [if_neg c11] at H;exact absurd H (by simp)
     ·
      rw [if_neg c10] at H;exact absurd H (by simp)
    ·
     rw [if_neg c9] at H;have c9b0:=decide_eq_false c9;clear c9;obtain rfl:=Option.some.inj H;go_wp2
     go_ret
     exact ⟨by first|rfl|(simp [Qe,Qf] <;>rfl)|(simp [*,Qe,Qf] <;>rfl),(vB HB)⟩
 ·
  replace c4:=Bool.eq_false_iff.mpr c4;subst c4;rw [if_neg (show ¬ (false=true) by decide)] at H;obtain rfl:=Option.some.inj H;go_enter Try.func75,Try.ntmps75;go_wp2_with (first|(refine bE (N:=1) (cs:= #[.slice A0_0 l0_0.length c0_0]) (t:=26) ?_;intro gb114 hg w27 hbox hb;have BK114:=Zk (hbox);have GW114:=Zk ((by rw [hg];exact (Qh (uB HB)):w.heap.size≤gb114));have GE114:=GW114;replace HB:=Zk (Qc (uB HB) hb);clear hb hbox hg;have hcz28_0:=bC BK114;have hfz28_0:=Qg BK114.out 0)|(refine gA (some 8) Try.func65 #[.agg #[.slice A0_0 l0_0.length c0_0]] ?_;(with_reducible refine (Qb1.calls _ _ l0_0 t115 _ (uD HR0_0 HB) HC0_0.out A2.out).mono ?_);rintro e w29 ⟨rfl,hb⟩;refine ⟨_,rfl,?_⟩;replace BK114:=Zk (Qd (uK BK114) hb);replace HB:=Zk (Qc (vB HB) hb);(try clear hb))|(refine gA (some 9) Try.func81 #[.int .i64 t115, .int .i64 1, .int .i64 10] ?_;(with_reducible refine (Qcd.calls t115 1 10 false _ A3.out).mono ?_);rintro e w' ⟨rfl,⟨nd,rfl⟩⟩;refine ⟨_,rfl,?_⟩))
  go_ret
  exact ⟨by first|rfl|(simp [Qe,Qf] <;>rfl)|(simp [*,Qe,Qf] <;>rfl),(vB HB)⟩
def Qcj.f (k:Nat) (l0_0:List Int) (a1:Int):Option (Bool):=(Q6.f k l0_0).bind fun t125=>(if t125=true then ((Qcd.f a1 0 20).bind fun t126=>(some t126)) else (some false))
theorem Qcj.mono: ∀ a0 a1 k,LeO (Qcj.f k a0 a1) (Qcj.f (k+1) a0 a1):=by
 intro a0 a1 k;unfold Qcj.f
 repeat' (with_reducible first|apply Q6.mono|exact LeO.refl _|exact LeO.none _|refine LeO.ite ?_ ?_|refine LeO.bind ?_ (fun _=> ?_))
set_option maxHeartbeats 8000000 in
set_option maxRecDepth 100000 in
theorem Qcj.calls (k:Nat) (A0_0:Option Addr) (c0_0:Nat) (l0_0:List Int) (a1:Int) (r:Bool) (w:World) (hr0_0:Kd.C (Kd.int .i64) w A0_0 l0_0.length l0_0) (hc0_0:l0_0.length≤c0_0) (h:Qcj.f k l0_0 a1=some r):
 Calls Try.prog 77 #[.agg #[.slice A0_0 l0_0.length c0_0], .int .i64 a1] w fun e w'=>e= .returned (.bool r)∧Below w.heap.size w w':=by
 have hu26:=Try.underlying26;have HR0_0:=Zk hr0_0;have HC0_0:=Zk hc0_0;clear hr0_0 hc0_0;have HB:=Zk (Below.refl w.heap.size w);have H:((Q6.f k l0_0).bind fun t125=>(if t125=true then ((Qcd.f a1 0 20).bind fun t126=>(some t126)) else (some false)))=some r:=h;clear h;obtain ⟨t125,A3,H⟩:=bs H;(try dsimp only at H)
 by_cases c4:t125=true
 ·
  subst c4;rw [if_pos rfl] at H;obtain ⟨t126,A5,H⟩:=bs H;(try dsimp only at H)
  obtain rfl:=Option.some.inj H;go_enter Try.func77,Try.ntmps77;go_wp2_with (first|(refine bE (N:=2) (cs:= #[.slice A0_0 l0_0.length c0_0]) (t:=26) ?_;intro gb124 hg w6 hbox hb;have BK124:=Zk (hbox);have GW124:=Zk ((by rw [hg];exact (Qh (uB HB)):w.heap.size≤gb124));have GE124:=GW124;replace HB:=Zk (Qc (uB HB) hb);clear hb hbox hg;have hcz7_0:=bC BK124;have hfz7_0:=Qg BK124.out 0)|(refine gA (some 6) Try.func75 #[.agg #[.slice A0_0 l0_0.length c0_0]] ?_;(with_reducible refine (Q6.calls k _ _ l0_0 true _ (uD HR0_0 HB) HC0_0.out A3.out).mono ?_);rintro e w8 ⟨rfl,hb⟩;refine ⟨_,rfl,?_⟩;replace BK124:=Zk (Qd (uK BK124) hb);replace HB:=Zk (Qc (vB HB) hb);(try clear hb))|(go_at_call 81;(with_reducible refine (Qcd.calls a1 0 20 t126 _ A5.out).mono ?_);rintro e w' ⟨rfl,⟨nd,rfl⟩⟩))
  go_ret
  exact ⟨by first|rfl|(simp [Qe,Qf] <;>rfl)|(simp [*,Qe,Qf] <;>rfl),(vB HB)⟩
 ·
  replace c4:=Bool.eq_false_iff.mpr c4;subst c4;rw [if_neg (show ¬ (false=true) by decide)] at H;obtain rfl:=Option.some.inj H;go_enter Try.func77,Try.ntmps77;go_wp2_with (first|(refine bE (N:=2) (cs:= #[.slice A0_0 l0_0.length c0_0]) (t:=26) ?_;intro gb124 hg w9 hbox hb;have BK124:=Zk (hbox);have GW124:=Zk ((by rw [hg];exact (Qh (uB HB)):w.heap.size≤gb124));have GE124:=GW124;replace HB:=Zk (Qc (uB HB) hb);clear hb hbox hg;have hcz10_0:=bC BK124;have hfz10_0:=Qg BK124.out 0)|(refine gA (some 6) Try.func75 #[.agg #[.slice A0_0 l0_0.length c0_0]] ?_;(with_reducible refine (Q6.calls k _ _ l0_0 false _ (uD HR0_0 HB) HC0_0.out A3.out).mono ?_);rintro e w11 ⟨rfl,hb⟩;refine ⟨_,rfl,?_⟩;replace BK124:=Zk (Qd (uK BK124) hb);replace HB:=Zk (Qc (vB HB) hb);(try clear hb)))
  go_ret
  exact ⟨by first|rfl|(simp [Qe,Qf] <;>rfl)|(simp [*,Qe,Qf] <;>rfl),(vB HB)⟩
mutual
def Qt.l0:Nat→List Int→Int→Int→List Int→Int→Int→List Int→Option (Bool)
 |0,_,_,_,_,_,_,_=>none
 |k+1,x1,x2,x3,x18,x19,x20,x128000=>if x20<x19 then (if 0≤x20 then (if x20<(x18.length:Int) then ((Qcd.f (rd x18 x20) 0 x2).bind fun t130=>(if t130=true then (if x20<(x128000.length:Int) then ((Qbr.f k (rd x128000 x20)).bind fun t132=>(Qt.l1 k x1 x2 x3 (rd x18 x20) x18 x19 x20 t132 (t132.length:Int) 0 x128000)) else (none)) else (some false))) else (none)) else (none)) else (some true)
def Qt.l1:Nat→List Int→Int→Int→Int→List Int→Int→Int→List Int→Int→Int→List Int→Option (Bool)
 |0,_,_,_,_,_,_,_,_,_,_,_=>none
 |k+1,x1,x2,x3,x10,x18,x19,x20,x34,x35,x36,x128000=>if x36<x35 then (if 0≤x36 then (if x36<(x34.length:Int) then (if 0≤(rd x34 x36) then (if (rd x34 x36)<(x1.length:Int) then (if x10<(wrap64 ((rd x1 (rd x34 x36))+x3)) then (some false) else (Qt.l1 k x1 x2 x3 x10 x18 x19 x20 x34 x35 (wrap64 (x36+1)) x128000)) else (none)) else (none)) else (none)) else (none)) else (Qt.l0 k x1 x2 x3 x18 x19 (wrap64 (x20+1)) x128000)
end
def Qt.f (k:Nat) (l0_0:List Int) (l1:List Int) (a2:Int) (a3:Int):Option (Bool):=(Qb1.f l0_0).bind fun t128=>(if (l1.length:Int)=t128 then (Qt.l0 k l1 a2 a3 l1 (l1.length:Int) 0 l0_0) else (some false))
theorem Qt.mono_l: ∀ k,(∀ y0 y1 y2 y3 y4 y5 y6,LeO (Qt.l0 k y0 y1 y2 y3 y4 y5 y6) (Qt.l0 (k+1) y0 y1 y2 y3 y4 y5 y6))∧(∀ y0 y1 y2 y3 y4 y5 y6 y7 y8 y9 y10,LeO (Qt.l1 k y0 y1 y2 y3 y4 y5 y6 y7 y8 y9 y10) (Qt.l1 (k+1) y0 y1 y2 y3 y4 y5 y6 y7 y8 y9 y10))
 |0=>⟨fun _ _ _ _ _ _ _ r h=>by simp [Qt.l0] at h,fun _ _ _ _ _ _ _ _ _ _ _ r h=>by simp [Qt.l1] at h⟩
 |k+1=>by
  obtain ⟨ih0,ih1⟩:=Qt.mono_l k;refine ⟨?_,?_⟩
  all_goals
   intros
   first|unfold Qt.l0|unfold Qt.l1
   repeat' (with_reducible first|apply ih0|apply ih1|apply Qbr.mono|exact LeO.refl _|exact LeO.none _|refine LeO.ite ?_ ?_|refine LeO.bind ?_ (fun _=> ?_))
theorem Qt.mono: ∀ a0 a1 a2 a3 k,LeO (Qt.f k a0 a1 a2 a3) (Qt.f (k+1) a0 a1 a2 a3):=by
 intro a0 a1 a2 a3 k;obtain ⟨ih0,ih1⟩:=Qt.mono_l k;unfold Qt.f
 repeat' (with_reducible first|apply ih0|apply ih1|apply Qbr.mono|exact LeO.refl _|exact LeO.none _|refine LeO.ite ?_ ?_|refine LeO.bind ?_ (fun _=> ?_))
set_option maxHeartbeats 8000000 in
set_option maxRecDepth 100000 in
theorem Qt.calls (k:Nat) (A0_0:Option Addr) (c0_0:Nat) (l0_0:List Int) (A1:Option Addr) (c1:Nat) (l1:List Int) (a2:Int) (a3:Int) (r:Bool) (w:World) (hr0_0:Kd.C (Kd.int .i64) w A0_0 l0_0.length l0_0) (hc0_0:l0_0.length≤c0_0) (hr1:Kd.C (Kd.int .i64) w A1 l1.length l1) (hc1:l1.length≤c1) (h:Qt.f k l0_0 l1 a2 a3=some r):
 Calls Try.prog 78 #[.agg #[.slice A0_0 l0_0.length c0_0], .slice A1 l1.length c1, .int .i64 a2, .int .i64 a3] w fun e w'=>e= .returned (.bool r)∧Below w.heap.size w w':=by
 have hu26:=Try.underlying26;have HR0_0:=Zk hr0_0;have HC0_0:=Zk hc0_0;clear hr0_0 hc0_0;have HR1:=Zk hr1;have HC1:=Zk hc1;clear hr1 hc1;have HB:=Zk (Below.refl w.heap.size w);have H:((Qb1.f l0_0).bind fun t128=>(if (l1.length:Int)=t128 then (Qt.l0 k l1 a2 a3 l1 (l1.length:Int) 0 l0_0) else (some false)))=some r:=h;clear h;obtain ⟨t128,A5,H⟩:=bs H;(try dsimp only at H)
 by_cases c6:(l1.length:Int)=t128
 ·
  rw [if_pos c6] at H;have c6b0:((l1.length:Int)==t128)=true:=beq_iff_eq.mpr c6;have c6b1:((l1.length:Int) !=t128)=false:=bne_eq_false_iff_eq.mpr c6;clear c6;have H':=Zk H;clear H;go_enter Try.func78,Try.ntmps78;go_wp2_with (first|(refine bE (N:=4) (cs:= #[.slice A0_0 l0_0.length c0_0]) (t:=26) ?_;intro gb127 hg w7 hbox hb;have BK127:=Zk (hbox);have GW127:=Zk ((by rw [hg];exact (Qh (uB HB)):w.heap.size≤gb127));have GE127:=GW127;replace HB:=Zk (Qc (uB HB) hb);clear hb hbox hg;have hcz8_0:=bC BK127;have hfz8_0:=Qg BK127.out 0)|(refine gA (some 16) Try.func65 #[.agg #[.slice A0_0 l0_0.length c0_0]] ?_;(with_reducible refine (Qb1.calls _ _ l0_0 t128 _ (uD HR0_0 HB) HC0_0.out A5.out).mono ?_);rintro e w9 ⟨rfl,hb⟩;refine ⟨_,rfl,?_⟩;replace BK127:=Zk (Qd (uK BK127) hb);replace HB:=Zk (Qc (vB HB) hb);(try clear hb)))
  go_loopg [20] k (fun kq v20 w'=> ∃ (x20_1:Int),v20= .int .i64 x20_1∧Z0 (Qt.l0 kq l1 a2 a3 l1 (l1.length:Int) x20_1 l0_0=some r)∧Z0 (kq≤k)∧Z0 (w'.heap[gb127]? =some (.cells #[(.slice A0_0 l0_0.length c0_0)] 26 (0,0)))∧Z0 (Below w.heap.size w w'))
  case atStart=>exact ⟨(0),(by first|rfl|(simp;done)|(simp [*];done)),H',⟨Nat.le_refl _⟩,⟨uK BK127⟩,⟨(vB HB)⟩⟩
  case round=>
   clear H'
   try clear c6b0 c6b1 hcz8_0 hfz8_0
   obtain ⟨x20_1,rfl,HA,HK1,BK127,HB⟩:=hrel;cases gk with
   |zero=>exact absurd HA.out (by simp [Qt.l0])
   |succ k1=>
    have H:=HA.out;clear HA;simp only [Qt.l0] at H
    by_cases c10:x20_1<(l1.length:Int)
    ·
     rw [if_pos c10] at H;have c10b0:=decide_eq_true c10;clear c10
     by_cases c11:0≤x20_1
     ·
      rw [if_pos c11] at H;have c11b0:=decide_eq_true c11;clear c11
      by_cases c12:x20_1<(l1.length:Int)
      ·
       rw [if_pos c12] at H;have c12b0:=decide_eq_true c12;clear c12;obtain ⟨t130,A13,H⟩:=bs H;(try dsimp only at H)
       by_cases c14:t130=true
       ·
        subst c14;rw [if_pos rfl] at H
        by_cases c15:x20_1<(l0_0.length:Int)
        ·
         rw [if_pos c15] at H;have c15b0:=decide_eq_true c15;clear c15;obtain ⟨t132,A16,H⟩:=bs H;(try dsimp only at H)
         have H':=Zk H;clear H;have p129:0≤(x20_1:Int):=of_decide_eq_true (by first|(with_reducible assumption)|assumption);have q129:x20_1<(l1.length:Int):=of_decide_eq_true (by first|(with_reducible assumption)|assumption);obtain ⟨ad129,e129,hx129_0⟩:=Kd.at_int HR1.out x20_1 p129 q129;cases e129;replace hx129_0:=(HB.out.cell (World.block_lt_of_cell? w _ hx129_0)).trans hx129_0;replace p129:=eq_true p129;replace q129:=eq_true q129;go_wp2_with (first|(refine gA (some 27) Try.func81 #[.int .i64 (rd l1 x20_1), .int .i64 0, .int .i64 a2] ?_;(with_reducible refine (Qcd.calls (rd l1 x20_1) 0 a2 true _ A13.out).mono ?_);rintro e w' ⟨rfl,⟨nd,rfl⟩⟩;refine ⟨_,rfl,?_⟩;have hcz17_0:=bC BK127;have hfz17_0:=Qg BK127.out 0;have p131:0≤(x20_1:Int):=of_decide_eq_true (by first|(with_reducible assumption)|assumption);have q131:x20_1<(l0_0.length:Int):=of_decide_eq_true (by first|(with_reducible assumption)|assumption);obtain ⟨ad131,e131,hx131_0⟩:=Kd.at_int HR0_0.out x20_1 p131 q131;cases e131;replace hx131_0:=(HB.out.cell (World.block_lt_of_cell? w _ hx131_0)).trans hx131_0;replace p131:=eq_true p131;replace q131:=eq_true q131)|(refine gA (some 34) Try.func116 #[.int .i64 (rd l0_0 x20_1)] ?_;(with_reducible refine (Qbr.calls k1 (rd l0_0 x20_1) t132 _ A16.out).mono ?_);rintro e w18 ⟨v133,rfl,ho0,hb⟩;refine ⟨_,rfl,?_⟩;have HO134:=Zk (Kd.R_lower ho0 (Qh (vB HB)));replace BK127:=Zk (Qd (uK BK127) hb);replace HB:=Zk (Qc (vB HB) hb);(try clear hb ho0);obtain ⟨Ao19,co19,eo19⟩:=Kd.R_slice HO134.out;subst eo19))
         go_loopg [36] k1 (fun kq v36 w'=> ∃ (x36_2:Int),v36= .int .i64 x36_2∧Z0 (Qt.l1 kq l1 a2 a3 (rd l1 x20_1) l1 (l1.length:Int) x20_1 t132 (t132.length:Int) x36_2 l0_0=some r)∧Z0 (kq≤k1)∧Z0 (Kd.R (Kd.int .i64) 3 w' w.heap.size (fun _=>True) (.slice Ao19 t132.length co19) t132)∧Z0 (w'.heap[gb127]? =some (.cells #[(.slice (some ad131) l0_0.length c0_0)] 26 (0,0)))∧Z0 (Below w.heap.size w w'))
         case atStart=>exact ⟨(0),(by first|rfl|(simp;done)|(simp [*];done)),H',⟨Nat.le_refl _⟩,⟨uR HO134⟩,⟨uK BK127⟩,⟨(vB HB)⟩⟩
         case round=>
          clear H'
          try clear c10b0 c11b0 c12b0 c15b0 hcz17_0 hfz17_0 hx129_0 hx131_0 p129 p131 q129 q131
          obtain ⟨x36_2,rfl,HA,HK2,HO_34,BK127,HB⟩:=hrel;cases gk with
          |zero=>exact absurd HA.out (by simp [Qt.l1])
          |succ k2=>
           have H:=HA.out;clear HA;simp only [Qt.l1] at H
           by_cases c20:x36_2<(t132.length:Int)
           ·
            rw [if_pos c20] at H;have c20b0:=decide_eq_true c20;clear c20
            by_cases c21:0≤x36_2
            ·
             rw [if_pos c21] at H;have c21b0:=decide_eq_true c21;clear c21
             by_cases c22:x36_2<(t132.length:Int)
             ·
              rw [if_pos c22] at H;have c22b0:=decide_eq_true c22;clear c22
              by_cases c23:0≤(rd t132 x36_2)
              ·
               rw [if_pos c23] at H;have c23b0:=decide_eq_true c23;clear c23
               by_cases c24:(rd t132 x36_2)<(l1.length:Int)
               ·
                rw [if_pos c24] at H;have c24b0:=decide_eq_true c24;clear c24
                by_cases c25:(rd l1 x20_1)<(wrap64 ((rd l1 (rd t132 x36_2))+a3))
                ·
                 rw [if_pos c25] at H;have c25b0:=decide_eq_true c25;clear c25;obtain rfl:=Option.some.inj H;have p135:0≤(x36_2:Int):=of_decide_eq_true (by first|(with_reducible assumption)|assumption);have q135:x36_2<(t132.length:Int):=of_decide_eq_true (by first|(with_reducible assumption)|assumption);obtain ⟨ad135,e135,hx135_0⟩:=Kd.at_int (Kd.R_reads' HO_34.out).2.2 x36_2 p135 q135;cases e135;replace p135:=eq_true p135;replace q135:=eq_true q135;have p136:0≤((rd t132 x36_2):Int):=of_decide_eq_true (by first|(with_reducible assumption)|assumption);have q136:(rd t132 x36_2)<(l1.length:Int):=of_decide_eq_true (by first|(with_reducible assumption)|assumption);obtain ⟨ad136,e136,hx136_0⟩:=Kd.at_int HR1.out (rd t132 x36_2) p136 q136;obtain rfl:ad129=ad136:=(by injection e136)
                 replace hx136_0:=(HB.out.cell (World.block_lt_of_cell? w _ hx136_0)).trans hx136_0;replace p136:=eq_true p136;replace q136:=eq_true q136;go_wp2
                 go_ret
                 exact ⟨by first|rfl|(simp [Qe,Qf] <;>rfl)|(simp [*,Qe,Qf] <;>rfl),(vB HB)⟩
                ·
                 rw [if_neg c25] at H;have c25b0:=decide_eq_false c25;clear c25;have H':=Zk H;clear H;have p135:0≤(x36_2:Int):=of_decide_eq_true (by first|(with_reducible assumption)|assumption);have q135:x36_2<(t132.length:Int):=of_decide_eq_true (by first|(with_reducible assumption)|assumption);obtain ⟨ad135,e135,hx135_0⟩:=Kd.at_int (Kd.R_reads' HO_34.out).2.2 x36_2 p135 q135;cases e135;replace p135:=eq_true p135;replace q135:=eq_true q135;have p136:0≤((rd t132 x36_2):Int):=of_decide_eq_true (by first|(with_reducible assumption)|assumption);have q136:(rd t132 x36_2)<(l1.length:Int):=of_decide_eq_true (by first|(with_reducible assumption)|assumption);obtain ⟨ad136,e136,hx136_0⟩:=Kd.at_int HR1.out (rd t132 x36_2) p136 q136;obtain rfl:ad129=ad136:=(by injection e136)
                 replace hx136_0:=(HB.out.cell (World.block_lt_of_cell? w _ hx136_0)).trans hx136_0;replace p136:=eq_true p136;replace q136:=eq_true q136;go_wp2;go_roundg k2
                 case measure=>have:=HK1.out;have:=HK2.out;omega
                 case rel=>exact ⟨(wrap64 (x36_2+1)),(by first|rfl|(simp;done)|(simp [*];done)),H',⟨by have:=HK1.out;have:=HK2.out;omega⟩,⟨uR HO_34⟩,⟨uK BK127⟩,⟨(vB HB)⟩⟩
               ·
                rw [if_neg c24] at H;exact absurd H (by simp)
              ·
               rw [if_neg c23] at H;exact absurd H (by simp)
             ·
              rw [if_neg c22] at H;exact absurd H (by simp)
            ·
             rw [if_neg c21] at H;exact absurd H (by simp)
           ·
            rw [if_neg c20] at H;have c20b0:=decide_eq_false c20;clear c20;have H':=Zk H;clear H;go_wp2;go_roundg k2
            case measure=>have:=HK1.out;have:=HK2.out;omega
            case rel=>exact ⟨(wrap64 (x20_1+1)),(by first|rfl|(simp;done)|(simp [*];done)),H',⟨by have:=HK1.out;have:=HK2.out;omega⟩,⟨uK BK127⟩,⟨(vB HB)⟩⟩
        ·
         rw [if_neg c15] at H;exact absurd H (by simp)
       ·
        replace c14:=Bool.eq_false_iff.mpr c14;subst c14;rw [if_neg (show ¬ (false=true) by decide)] at H;obtain rfl:=Option.some.inj H;have p129:0≤(x20_1:Int):=of_decide_eq_true (by first|(with_reducible assumption)|assumption);have q129:x20_1<(l1.length:Int):=of_decide_eq_true (by first|(with_reducible assumption)|assumption);obtain ⟨ad129,e129,hx129_0⟩:=Kd.at_int HR1.out x20_1 p129 q129;cases e129;replace hx129_0:=(HB.out.cell (World.block_lt_of_cell? w _ hx129_0)).trans hx129_0;replace p129:=eq_true p129;replace q129:=eq_true q129;go_wp2_with (first|(refine gA (some 27) Try.func81 #[.int .i64 (rd l1 x20_1), .int .i64 0, .int .i64 a2] ?_;(with_reducible refine (Qcd.calls (rd l1 x20_1) 0 a2 false _ A13.out).mono ?_);rintro e w' ⟨rfl,⟨nd,rfl⟩⟩;refine ⟨_,rfl,?_⟩))
        go_ret
        exact ⟨by first|rfl|(simp [Qe,Qf] <;>rfl)|(simp [*,Qe,Qf] <;>rfl),(vB HB)⟩
      ·
       rw [if_neg c12] at H;exact absurd H (by simp)
     ·
      rw [if_neg c11] at H;exact absurd H (by simp)
    ·
     rw [if_neg c10] at H;have c10b0:=decide_eq_false c10;clear c10;obtain rfl:=Option.some.inj H;go_wp2
     go_ret
     exact ⟨by first|rfl|(simp [Qe,Qf] <;>rfl)|(simp [*,Qe,Qf] <;>rfl),(vB HB)⟩
 ·
  rw [if_neg c6] at H;have c6b0:((l1.length:Int)==t128)=false:=beq_eq_false_iff_ne.mpr c6;have c6b1:((l1.length:Int) !=t128)=true:=bne_iff_ne.mpr c6;obtain rfl:=Option.some.inj H;go_enter Try.func78,Try.ntmps78;go_wp2_with (first|(refine bE (N:=4) (cs:= #[.slice A0_0 l0_0.length c0_0]) (t:=26) ?_;intro gb127 hg w26 hbox hb;have BK127:=Zk (hbox);have GW127:=Zk ((by rw [hg];exact (Qh (uB HB)):w.heap.size≤gb127));have GE127:=GW127;replace HB:=Zk (Qc (uB HB) hb);clear hb hbox hg;have hcz27_0:=bC BK127;have hfz27_0:=Qg BK127.out 0)|(refine gA (some 16) Try.func65 #[.agg #[.slice A0_0 l0_0.length c0_0]] ?_;(with_reducible refine (Qb1.calls _ _ l0_0 t128 _ (uD HR0_0 HB) HC0_0.out A5.out).mono ?_);rintro e w28 ⟨rfl,hb⟩;refine ⟨_,rfl,?_⟩;replace BK127:=Zk (Qd (uK BK127) hb);replace HB:=Zk (Qc (vB HB) hb);(try clear hb)))
  go_ret
  exact ⟨by first|rfl|(simp [Qe,Qf] <;>rfl)|(simp [*,Qe,Qf] <;>rfl),(vB HB)⟩
def Qcv.f (k:Nat) (l0_0:List Int) (l1:List Int) (a2:Int):Option (Bool):=(Qcj.f k l0_0 a2).bind fun t138=>(if t138=true then ((Qt.f k l0_0 l1 a2 0).bind fun t139=>(some t139)) else (some false))
theorem Qcv.mono: ∀ a0 a1 a2 k,LeO (Qcv.f k a0 a1 a2) (Qcv.f (k+1) a0 a1 a2):=by
 intro a0 a1 a2 k;unfold Qcv.f
 repeat' (with_reducible first|apply Qt.mono|apply Qcj.mono|exact LeO.refl _|exact LeO.none _|refine LeO.ite ?_ ?_|refine LeO.bind ?_ (fun _=> ?_))
set_option maxHeartbeats 8000000 in
set_option maxRecDepth 100000 in
theorem Qcv.calls (k:Nat) (A0_0:Option Addr) (c0_0:Nat) (l0_0:List Int) (A1:Option Addr) (c1:Nat) (l1:List Int) (a2:Int) (r:Bool) (w:World) (hr0_0:Kd.C (Kd.int .i64) w A0_0 l0_0.length l0_0) (hc0_0:l0_0.length≤c0_0) (hr1:Kd.C (Kd.int .i64) w A1 l1.length l1) (hc1:l1.length≤c1) (h:Qcv.f k l0_0 l1 a2=some r):
 Calls Try.prog 62 #[.agg #[.slice A0_0 l0_0.length c0_0], .slice A1 l1.length c1, .int .i64 a2] w fun e w'=>e= .returned (.bool r)∧Below w.heap.size w w':=by
 have hu26:=Try.underlying26;have HR0_0:=Zk hr0_0;have HC0_0:=Zk hc0_0;clear hr0_0 hc0_0;have HR1:=Zk hr1;have HC1:=Zk hc1;clear hr1 hc1;have HB:=Zk (Below.refl w.heap.size w);have H:((Qcj.f k l0_0 a2).bind fun t138=>(if t138=true then ((Qt.f k l0_0 l1 a2 0).bind fun t139=>(some t139)) else (some false)))=some r:=h;clear h;obtain ⟨t138,A4,H⟩:=bs H;(try dsimp only at H)
 by_cases c5:t138=true
 ·
  subst c5;rw [if_pos rfl] at H;obtain ⟨t139,A6,H⟩:=bs H;(try dsimp only at H)
  obtain rfl:=Option.some.inj H;go_enter Try.func62,Try.ntmps62;go_wp2_with (first|(refine bE (N:=3) (cs:= #[.slice A0_0 l0_0.length c0_0]) (t:=26) ?_;intro gb137 hg w7 hbox hb;have BK137:=Zk (hbox);have GW137:=Zk ((by rw [hg];exact (Qh (uB HB)):w.heap.size≤gb137));have GE137:=GW137;replace HB:=Zk (Qc (uB HB) hb);clear hb hbox hg;have hcz8_0:=bC BK137;have hfz8_0:=Qg BK137.out 0)|(refine gA (some 9) Try.func77 #[.agg #[.slice A0_0 l0_0.length c0_0], .int .i64 a2] ?_;(with_reducible refine (Qcj.calls k _ _ l0_0 a2 true _ (uD HR0_0 HB) HC0_0.out A4.out).mono ?_);rintro e w9 ⟨rfl,hb⟩;refine ⟨_,rfl,?_⟩;replace BK137:=Zk (Qd (uK BK137) hb);replace HB:=Zk (Qc (vB HB) hb);(try clear hb);have hcz10_0:=bC BK137;have hfz10_0:=Qg BK137.out 0)|(go_at_call 78;(with_reducible refine (Qt.calls k _ _ l0_0 _ _ l1 a2 0 t139 _ (uD HR0_0 HB) HC0_0.out (uD HR1 HB) HC1.out A6.out).mono ?_);rintro e w11 ⟨rfl,hb⟩;replace BK137:=Zk (Qd (uK BK137) hb);replace HB:=Zk (Qc (vB HB) hb);(try clear hb)))
  go_ret
  exact ⟨by first|rfl|(simp [Qe,Qf] <;>rfl)|(simp [*,Qe,Qf] <;>rfl),(vB HB)⟩
 ·
  replace c5:=Bool.eq_false_iff.mpr c5;subst c5;rw [if_neg (show ¬ (false=true) by decide)] at H;obtain rfl:=Option.some.inj H;go_enter Try.func62,Try.ntmps62;go_wp2_with (first|(refine bE (N:=3) (cs:= #[.slice A0_0 l0_0.length c0_0]) (t:=26) ?_;intro gb137 hg w12 hbox hb;have BK137:=Zk (hbox);have GW137:=Zk ((by rw [hg];exact (Qh (uB HB)):w.heap.size≤gb137));have GE137:=GW137;replace HB:=Zk (Qc (uB HB) hb);clear hb hbox hg;have hcz13_0:=bC BK137;have hfz13_0:=Qg BK137.out 0)|(refine gA (some 9) Try.func77 #[.agg #[.slice A0_0 l0_0.length c0_0], .int .i64 a2] ?_;(with_reducible refine (Qcj.calls k _ _ l0_0 a2 false _ (uD HR0_0 HB) HC0_0.out A4.out).mono ?_);rintro e w14 ⟨rfl,hb⟩;refine ⟨_,rfl,?_⟩;replace BK137:=Zk (Qd (uK BK137) hb);replace HB:=Zk (Qc (vB HB) hb);(try clear hb)))
  go_ret
  exact ⟨by first|rfl|(simp [Qe,Qf] <;>rfl)|(simp [*,Qe,Qf] <;>rfl),(vB HB)⟩
def Qca.l0:Nat→List Int→Int→Int→Option (List Int)
 |0,_,_,_=>none
 |k+1,x3,x6,x7=>if x7<x6 then (if x3.length<17592186044416 then (Qca.l0 k (x3++ [x7]) x6 (wrap64 (x7+1))) else (none)) else (some x3)
def Qca.f (k:Nat) (a0:Int):Option (List Int):=Qca.l0 k (([] :List Int)) a0 0
theorem Qca.mono_l: ∀ k,(∀ y0 y1 y2,LeO (Qca.l0 k y0 y1 y2) (Qca.l0 (k+1) y0 y1 y2))
 |0=>fun _ _ _ r h=>by simp [Qca.l0] at h
 |k+1=>by
  have ih0:=Qca.mono_l k
  ·
   intro y0 y1 y2;unfold Qca.l0
   repeat' first
   |(with_reducible exact ih0 _ _ _)
   |(with_reducible exact LeO.refl _)
   |(with_reducible exact LeO.none _)
   |(with_reducible refine LeO.ite ?_ ?_)
   |(with_reducible refine LeO.bind ?_ (fun _=> ?_))
   |exact ih0 _ _ _
   |exact LeO.none _
   |refine LeO.ite ?_ ?_
   |refine LeO.bind ?_ (fun _=> ?_)
theorem Qca.mono: ∀ a0 k,LeO (Qca.f k a0) (Qca.f (k+1) a0):=by
 intro a0 k;have ih0:=Qca.mono_l k;unfold Qca.f
 repeat' (with_reducible first|apply ih0|exact LeO.refl _|exact LeO.none _|refine LeO.ite ?_ ?_|refine LeO.bind ?_ (fun _=> ?_))
set_option maxHeartbeats 8000000 in
set_option maxRecDepth 100000 in
theorem Qca.calls (k:Nat) (a0:Int) (r:List Int) (w:World) (h:Qca.f k a0=some r):
 Calls Try.prog 64 #[.int .i64 a0] w fun e w'=> ∃ v0_:Value,e= .returned (v0_)∧Kd.R (Kd.int .i64) 3 w' w.heap.size (fun _=>True) v0_ r∧Below w.heap.size w w':=by
 have HB:=Zk (Below.refl w.heap.size w);have H:(Qca.l0 k (([] :List Int)) a0 0)=some r:=h;clear h;obtain ⟨y140,hy140⟩: ∃ y_:List Int,y_=(([] :List Int)):=⟨_,rfl⟩
 replace H:(Qca.l0 k y140 a0 0)=some r:=by first|(rw [hy140];with_reducible exact H)|(have H2_:=(Option.bind_some _ _).symm.trans H;rw [hy140];with_reducible exact H2_)|(have H2_:=(Option.bind_some _ _).symm.trans H;with_reducible exact H2_)|with_reducible exact H|(rw [hy140];exact H)|exact H
 have Ny140:=Zk hy140;clear hy140;have H':=Zk H;clear H;go_enter Try.func64,Try.ntmps64;go_wp2_with (first|((with_reducible refine Qb2 (N:=5) rfl ?_);refine Kd.R_lit (Kd.int .i64) _ 3 ?hg (N:=5) ?hd (xs:=([] :List Int)) (inner:= []) (ok:=fun _=>True) (okp:=fun _=>True) ?hr ?hp (fun _ hk=>hk) trivial (Below.refl _ _) (Nat.le_refl _) (by simp) ?_;(case hd=>rfl);(case hg=>rfl);(case hr=>first|(go_simp;done)|(go_simp;rfl));(case hp=>exact (Reps.none _ _));intro v141 w2 ho3 hb hg_ hnew_;clear hg_ hnew_;(first|rw [←Ny140.out] at ho3|(simp only [Int.reduceToNat] at ho3;rw [←Ny140.out] at ho3));have HO142:=Zk (Kd.R_lower ho3 (Qh (uB HB)));replace HB:=Zk (Qc (uB HB) hb);clear hb ho3))
 go_loopg [3,7] k (fun kq v3 v7 w'=> ∃ (x3_1:List Int) (x7_1:Int),v7= .int .i64 x7_1∧Z0 (Qca.l0 kq x3_1 a0 x7_1=some r)∧Z0 (kq≤k)∧Z0 (Kd.R (Kd.int .i64) 3 w' w.heap.size (fun _=>True) v3 x3_1)∧Z0 (Below w.heap.size w w'))
 case atStart=>exact ⟨(y140),(0),(by first|rfl|(simp;done)|(simp [*];done)),H',⟨Nat.le_refl _⟩,⟨uR HO142⟩,⟨uB HB⟩⟩
 case round=>
  clear H'
  skip
  obtain ⟨x3_1,x7_1,rfl,HA,HK1,HO_3,HB⟩:=hrel;cases gk with
  |zero=>exact absurd HA.out (by simp [Qca.l0])
  |succ k1=>
   have H:=HA.out;clear HA;simp only [Qca.l0] at H
   by_cases c4:x7_1<a0
   ·
    rw [if_pos c4] at H;have c4b0:=decide_eq_true c4;clear c4
    by_cases c5:x3_1.length<17592186044416
    ·
     rw [if_pos c5] at H;have LMc5:=Zk c5;clear c5;obtain ⟨y143,hy143⟩: ∃ y_:List Int,y_=(x3_1++ [x7_1]):=⟨_,rfl⟩
     replace H:(Qca.l0 k1 y143 a0 (wrap64 (x7_1+1)))=some r:=by first|(rw [hy143];with_reducible exact H)|(have H2_:=(Option.bind_some _ _).symm.trans H;rw [hy143];with_reducible exact H2_)|(have H2_:=(Option.bind_some _ _).symm.trans H;with_reducible exact H2_)|with_reducible exact H|(rw [hy143];exact H)|exact H
     have Ny143:=Zk hy143;clear hy143;have H':=Zk H;clear H;go_wp2_with (first|((with_reducible refine Qcl (b:= .append) (xs:= #[.tmp 10, .tmp 12]) rfl ?_);at_builtin;refine Kd.R_append (Kd.int .i64) (w0:=w) w.heap.size rfl (.tmp 10) (.tmp 12) 24 3 (.int .i64 0) 8 rfl Try.underlying24 Qed rfl (by decide) (by omega) u3 x3_1 x7_1 [.int .i64 x7_1] (fun _=>True) (fun _=>False) rfl rfl ?aP (fun _ hk=>hk.elim) ?aF ?aO ?aB ?aS ?aL ?_;(case aP=>exact rfl);(case aB=>exact (uB HB));(case aF=>exact (fun _ _=>trivial));(case aO=>exact (uR HO_3));(case aS=>exact (Qh (uB HB)));(case aL=>have:=LMc5.out;omega);intro v144 w6 ho hb hg hat;rw [←Ny143.out] at ho;replace HB:=Zk (hb);have HO145:=Zk (ho);clear HO_3;clear ho hb hg hat));go_roundg k1
     case measure=>have:=HK1.out;omega
     case rel=>exact ⟨(y143),(wrap64 (x7_1+1)),(by first|rfl|(simp;done)|(simp [*];done)),H',⟨by have:=HK1.out;omega⟩,⟨uR HO145⟩,⟨uB HB⟩⟩
    ·
     rw [if_neg c5] at H;exact absurd H (by simp)
   ·
    rw [if_neg c4] at H;have c4b0:=decide_eq_false c4;clear c4;obtain rfl:=Option.some.inj H;go_wp2
    go_ret
    exact ⟨_,by first|rfl|(simp [Qe,Qf] <;>rfl)|(simp [*,Qe,Qf] <;>rfl),uR HO_3,uB HB⟩
end Go.Proofs.Ytkgngggppcmpfaa.L
end
section
namespace Go.Proofs.Ytkgngggppcmpfaa.L
open Go.RowKit Go.Proofs.YtkgngggppcmpfaaW.PrintWords Go.Proofs.YtkgngggppcmpfaaW.PrintLast Go.Proofs.YtkgngggppcmpfaaW.PrintMore
attribute [local go_sem] Qbd Qbf Qbn Qbo Q3 Q4 Qbe Qbg
set_option linter.unusedVariables false
set_option linter.unusedSimpArgs false
def Qc7.f (l0:List Int):Option (List Int):=if l0.length<17592186044416 then some l0 else none
set_option maxHeartbeats 800000 in
set_option maxRecDepth 100000 in
theorem Qc7.calls (A0:Option Addr) (c0:Nat) (l0:List Int) (r:List Int) (w:World) (hr0:Kd.C (Kd.int .i64) w A0 l0.length l0) (hc0:l0.length≤c0) (h:Qc7.f l0=some r):
 Calls Try.prog 66 #[.slice A0 l0.length c0] w fun e w'=> ∃ v0_:Value,e= .returned (v0_)∧Kd.R (Kd.int .i64) 3 w' w.heap.size (fun _=>True) v0_ r∧Below w.heap.size w w':=by
 unfold Qc7.f at h
 split at h
 ·
  rename_i hl;obtain rfl:=Option.some.inj h;clear h;have HL:=Zk hl;have HR0:=Zk hr0;clear hl hr0 hc0;cases A0 with
  |none=>
   have hn:l0= [] :=by
    apply Classical.byContradiction;intro hne;obtain ⟨_,e,_⟩:=HR0.out.2.2 (List.length_pos_iff.mpr hne);cases e
   subst hn;have hs:=Lib.run_eql_slice_nil (P:=Try.prog) w 24 3 none 0 c0 0 0 Try.underlying24;go_enter Try.func66,Try.ntmps66;go_wp2
   go_ret
   exact ⟨_,rfl,Kd.R_nil _ _ _ _ _,Below.refl _ _⟩
  |some a=>
   have hs:=Lib.run_eql_slice_nil (P:=Try.prog) w 24 3 (some a) l0.length c0 0 0 Try.underlying24;go_enter Try.func66,Try.ntmps66;go_wp2_with (first|((with_reducible refine Qb2 (N:=5) rfl ?_);refine Kd.R_lit (Kd.int .i64) _ 3 ?hg (N:=5) ?hd (xs:=([] :List Int)) (inner:= []) (ok:=fun _=>True) (okp:=fun _=>True) ?hr ?hp (fun _ hk=>hk) trivial (Below.refl _ _) (Nat.le_refl _) (by simp) ?_;(case hd=>rfl);(case hg=>rfl);(case hr=>first|(go_simp;done)|(go_simp;rfl));(case hp=>exact (Reps.none _ _));intro v109 w3 ho4 hb hg_ hnew_;clear hg_ hnew_;have HB:=Zk hb;have HO:=Zk ho4;clear hb ho4)|((with_reducible refine Qcl (b:= .append) (xs:= #[.tmp 5, .tmp 6]) rfl ?_);at_builtin;refine Kd.R_append_rows (Kd.int .i64) (w0:=w) w.heap.size rfl (.tmp 5) (.tmp 6) 24 3 (.int .i64 0) 8 rfl Try.underlying24 Qed rfl (by decide) (by omega) v109 [] l0 _ _ _ (fun _=>True) (fun _=>False) rfl rfl ?aO ?aR (fun _ _ h=>h) (fun _ h=>h.elim) ?aF ?aB ?aS ?aL ?_;(case aR=>exact (Kd.C_below HR0.out HB.out));(case aB=>exact HB.out);(case aF=>exact (fun _ _=>trivial));(case aO=>exact HO.out);(case aS=>exact HB.out.size);(case aL=>have:=HL.out;simp;omega);intro v112 w5 ho hb hg hat;have HB2:=Zk hb;have HO2:=Zk ho;clear ho hb hg hat))
   go_ret
   exact ⟨_,rfl,by simpa using HO2.out,HB2.out⟩
 ·
  exact absurd h (by simp)
end Go.Proofs.Ytkgngggppcmpfaa.L
end
section
namespace Go.Proofs.Ytkgngggppcmpfaa.L
open Go.RowKit Go.Proofs.YtkgngggppcmpfaaW.PrintWords Go.Proofs.YtkgngggppcmpfaaW.PrintLast Go.Proofs.YtkgngggppcmpfaaW.PrintMore Go.Proofs.Ytkgngggppcmpfaa.X
attribute [local go_sem] Qbd Qbf Qbn Qbo Q3 Q4 Qbe Qbg
set_option linter.unusedVariables false
set_option linter.unusedSimpArgs false
mutual
def Qbc.l0:Nat→List Int→Int→Int→Int→List Int→Int→Int→List Int→Option (Int × Int)
 |0,_,_,_,_,_,_,_,_=>none
 |k+1,x1,x3,x10,x11,x21,x22,x23,x147000=>if x23<x22 then (if 0≤x23 then (if x23<(x21.length:Int) then (if 0≤(rd x21 x23) then (if (rd x21 x23)<(x1.length:Int) then (Qbc.l0 k x1 x3 (mx x10 (rd x1 (rd x21 x23))) x11 x21 x22 (wrap64 (x23+1)) x147000) else (none)) else (none)) else (none)) else (none)) else ((Qb1.f x147000).bind fun t153=>(Qbc.l1 k x1 x3 x10 x11 t153 0 x147000))
def Qbc.l1:Nat→List Int→Int→Int→Int→Int→Int→List Int→Option (Int × Int)
 |0,_,_,_,_,_,_,_=>none
 |k+1,x1,x3,x10,x11,x35,x36,x147000=>if x36<x35 then (if 0≤x36 then (if x36<(x147000.length:Int) then ((Qel.f (rd x147000 x36) x3).bind fun t155=>(if t155=true then (if x36<(x1.length:Int) then (Qbc.l1 k x1 x3 x10 (mn x11 (rd x1 x36)) x35 (wrap64 (x36+1)) x147000) else (none)) else (Qbc.l1 k x1 x3 x10 x11 x35 (wrap64 (x36+1)) x147000))) else (none)) else (none)) else (some (x10,x11))
end
def Qbc.f (k:Nat) (l0_0:List Int) (l1:List Int) (a2:Int) (a3:Int):Option (Int × Int):=if 0≤a3 then (if a3<(l0_0.length:Int) then ((Qbr.f k (rd l0_0 a3)).bind fun t148=>(Qbc.l0 k l1 a3 0 a2 t148 (t148.length:Int) 0 l0_0)) else (none)) else (none)
theorem Qbc.mono_l: ∀ k,(∀ y0 y1 y2 y3 y4 y5 y6 y7,LeO (Qbc.l0 k y0 y1 y2 y3 y4 y5 y6 y7) (Qbc.l0 (k+1) y0 y1 y2 y3 y4 y5 y6 y7))∧(∀ y0 y1 y2 y3 y4 y5 y6,LeO (Qbc.l1 k y0 y1 y2 y3 y4 y5 y6) (Qbc.l1 (k+1) y0 y1 y2 y3 y4 y5 y6))
 |0=>⟨fun _ _ _ _ _ _ _ _ r h=>by simp [Qbc.l0] at h,fun _ _ _ _ _ _ _ r h=>by simp [Qbc.l1] at h⟩
 |k+1=>by
  obtain ⟨ih0,ih1⟩:=Qbc.mono_l k;refine ⟨?_,?_⟩
  all_goals
   intros
   first|unfold Qbc.l0|unfold Qbc.l1
   repeat' (with_reducible first|apply ih0|apply ih1|apply Qbr.mono|exact LeO.refl _|exact LeO.none _|refine LeO.ite ?_ ?_|refine LeO.bind ?_ (fun _=> ?_))
theorem Qbc.mono: ∀ a0 a1 a2 a3 k,LeO (Qbc.f k a0 a1 a2 a3) (Qbc.f (k+1) a0 a1 a2 a3):=by
 intro a0 a1 a2 a3 k;obtain ⟨ih0,ih1⟩:=Qbc.mono_l k;unfold Qbc.f
 repeat' (with_reducible first|apply ih0|apply ih1|apply Qbr.mono|exact LeO.refl _|exact LeO.none _|refine LeO.ite ?_ ?_|refine LeO.bind ?_ (fun _=> ?_))
set_option maxHeartbeats 8000000 in
set_option maxRecDepth 100000 in
theorem Qbc.calls (k:Nat) (A0_0:Option Addr) (c0_0:Nat) (l0_0:List Int) (A1:Option Addr) (c1:Nat) (l1:List Int) (a2:Int) (a3:Int) (r1:Int) (r2:Int) (w:World) (hr0_0:Kd.C (Kd.int .i64) w A0_0 l0_0.length l0_0) (hc0_0:l0_0.length≤c0_0) (hr1:Kd.C (Kd.int .i64) w A1 l1.length l1) (hc1:l1.length≤c1) (h:Qbc.f k l0_0 l1 a2 a3=some (r1,r2)):
 Calls Try.prog 82 #[.agg #[.slice A0_0 l0_0.length c0_0], .slice A1 l1.length c1, .int .i64 a2, .int .i64 a3] w fun e w'=>e= .returned (.tuple #[.int .i64 r1, .int .i64 r2])∧Below w.heap.size w w':=by
 have hu26:=Try.underlying26;have HR0_0:=Zk hr0_0;have HC0_0:=Zk hc0_0;clear hr0_0 hc0_0;have HR1:=Zk hr1;have HC1:=Zk hc1;clear hr1 hc1;have HB:=Zk (Below.refl w.heap.size w);have H:(if 0≤a3 then (if a3<(l0_0.length:Int) then ((Qbr.f k (rd l0_0 a3)).bind fun t148=>(Qbc.l0 k l1 a3 0 a2 t148 (t148.length:Int) 0 l0_0)) else (none)) else (none))=some (r1,r2):=h;clear h
 by_cases c5:0≤a3
 ·
  rw [if_pos c5] at H;have c5b0:=decide_eq_true c5;clear c5
  by_cases c6:a3<(l0_0.length:Int)
  ·
   rw [if_pos c6] at H;have c6b0:=decide_eq_true c6;clear c6;obtain ⟨t148,A7,H⟩:=bs H;(try dsimp only at H)
   have H':=Zk H;clear H;go_enter Try.func82,Try.ntmps82;go_wp2_with (first|(refine bE (N:=4) (cs:= #[.slice A0_0 l0_0.length c0_0]) (t:=26) ?_;intro gb146 hg w8 hbox hb;have BK146:=Zk (hbox);have GW146:=Zk ((by rw [hg];exact (Qh (uB HB)):w.heap.size≤gb146));have GE146:=GW146;replace HB:=Zk (Qc (uB HB) hb);clear hb hbox hg;have hcz9_0:=bC BK146;have hfz9_0:=Qg BK146.out 0;have p147:0≤(a3:Int):=of_decide_eq_true (by first|(with_reducible assumption)|assumption);have q147:a3<(l0_0.length:Int):=of_decide_eq_true (by first|(with_reducible assumption)|assumption);obtain ⟨ad147,e147,hx147_0⟩:=Kd.at_int HR0_0.out a3 p147 q147;cases e147;replace hx147_0:=(HB.out.cell (World.block_lt_of_cell? w _ hx147_0)).trans hx147_0;replace p147:=eq_true p147;replace q147:=eq_true q147)|(refine gA (some 21) Try.func116 #[.int .i64 (rd l0_0 a3)] ?_;(with_reducible refine (Qbr.calls k (rd l0_0 a3) t148 _ A7.out).mono ?_);rintro e w10 ⟨v149,rfl,ho0,hb⟩;refine ⟨_,rfl,?_⟩;have HO150:=Zk (Kd.R_lower ho0 (Qh (vB HB)));replace BK146:=Zk (Qd (uK BK146) hb);replace HB:=Zk (Qc (vB HB) hb);(try clear hb ho0);obtain ⟨Ao11,co11,eo11⟩:=Kd.R_slice HO150.out;subst eo11))
   go_loopg [10,23] k (fun kq v10 v23 w'=> ∃ (x10_1:Int) (x23_1:Int),v10= .int .i64 x10_1∧v23= .int .i64 x23_1∧Z0 (Qbc.l0 kq l1 a3 x10_1 a2 t148 (t148.length:Int) x23_1 l0_0=some (r1,r2))∧Z0 (kq≤k)∧Z0 (Kd.R (Kd.int .i64) 3 w' w.heap.size (fun _=>True) (.slice Ao11 t148.length co11) t148)∧Z0 (w'.heap[gb146]? =some (.cells #[(.slice (some ad147) l0_0.length c0_0)] 26 (0,0)))∧Z0 (Below w.heap.size w w'))
   case atStart=>exact ⟨(0),(0),(by first|rfl|(simp;done)|(simp [*];done)),(by first|rfl|(simp;done)|(simp [*];done)),H',⟨Nat.le_refl _⟩,⟨uR HO150⟩,⟨uK BK146⟩,⟨(vB HB)⟩⟩
   case round=>
    clear H'
    try clear c5b0 c6b0 hcz9_0 hfz9_0 hx147_0 p147 q147
    obtain ⟨x10_1,x23_1,rfl,rfl,HA,HK1,HO_21,BK146,HB⟩:=hrel;cases gk with
    |zero=>exact absurd HA.out (by simp [Qbc.l0])
    |succ k1=>
     have H:=HA.out;clear HA;simp only [Qbc.l0] at H
     by_cases c12:x23_1<(t148.length:Int)
     ·
      rw [if_pos c12] at H;have c12b0:=decide_eq_true c12;clear c12
      by_cases c13:0≤x23_1
      ·
       rw [if_pos c13] at H;have c13b0:=decide_eq_true c13;clear c13
       by_cases c14:x23_1<(t148.length:Int)
       ·
        rw [if_pos c14] at H;have c14b0:=decide_eq_true c14;clear c14
        by_cases c15:0≤(rd t148 x23_1)
        ·
         rw [if_pos c15] at H;have c15b0:=decide_eq_true c15;clear c15
         by_cases c16:(rd t148 x23_1)<(l1.length:Int)
         ·
          rw [if_pos c16] at H;have c16b0:=decide_eq_true c16;clear c16;obtain ⟨ji17,hji17⟩: ∃ j_:Int,(mx x10_1 (rd l1 (rd t148 x23_1)))=j_:=⟨_,rfl⟩
          replace H:(Qbc.l0 k1 l1 a3 ji17 a2 t148 (t148.length:Int) (wrap64 (x23_1+1)) l0_0)=some (r1,r2):=by first|(rw [hji17] at H;exact H)|(simp only [hji17] at H ⊢;exact H)
          have hji17_:(if x10_1<(rd l1 (rd t148 x23_1)) then (rd l1 (rd t148 x23_1)) else x10_1)=ji17:=hji17;have H':=Zk H;clear H;have p151:0≤(x23_1:Int):=of_decide_eq_true (by first|(with_reducible assumption)|assumption);have q151:x23_1<(t148.length:Int):=of_decide_eq_true (by first|(with_reducible assumption)|assumption);obtain ⟨ad151,e151,hx151_0⟩:=Kd.at_int (Kd.R_reads' HO_21.out).2.2 x23_1 p151 q151;cases e151;replace p151:=eq_true p151;replace q151:=eq_true q151;have p152:0≤((rd t148 x23_1):Int):=of_decide_eq_true (by first|(with_reducible assumption)|assumption);have q152:(rd t148 x23_1)<(l1.length:Int):=of_decide_eq_true (by first|(with_reducible assumption)|assumption);obtain ⟨ad152,e152,hx152_0⟩:=Kd.at_int HR1.out (rd t148 x23_1) p152 q152;cases e152;replace hx152_0:=(HB.out.cell (World.block_lt_of_cell? w _ hx152_0)).trans hx152_0;replace p152:=eq_true p152;replace q152:=eq_true q152;go_wp2;go_roundg k1
          case measure=>have:=HK1.out;omega
          case rel=>exact ⟨(ji17),(wrap64 (x23_1+1)),(by first|rfl|(simp;done)|(simp only [←hji17] <;>(first|rfl|simp))|(simp [*];done)),(by first|rfl|(simp;done)|(simp [*];done)),H',⟨by have:=HK1.out;omega⟩,⟨uR HO_21⟩,⟨uK BK146⟩,⟨(vB HB)⟩⟩
         ·
          rw [if_neg c16] at H;exact absurd H (by simp)
        ·
         rw [if_neg c15] at H;exact absurd H (by simp)
       ·
        rw [if_neg c14] at H;exact absurd H (by simp)
      ·
       rw [if_neg c13] at H;exact absurd H (by simp)
     ·
      rw [if_neg c12] at H;have c12b0:=decide_eq_false c12;clear c12;obtain ⟨t153,A18,H⟩:=bs H;(try dsimp only at H)
      have H':=Zk H;clear H;have hcz19_0:=bC BK146;have hfz19_0:=Qg BK146.out 0;go_wp2_with (first|(refine gA (some 35) Try.func65 #[.agg #[.slice (some ad147) l0_0.length c0_0]] ?_;(with_reducible refine (Qb1.calls _ _ l0_0 t153 _ (uD HR0_0 HB) HC0_0.out A18.out).mono ?_);rintro e w20 ⟨rfl,hb⟩;refine ⟨_,rfl,?_⟩;replace HO_21:=Zk (Kd.R_below (uR HO_21) hb);replace BK146:=Zk (Qd (uK BK146) hb);replace HB:=Zk (Qc (vB HB) hb);(try clear hb)))
      go_loopg [11,36] k1 (fun kq v11 v36 w'=> ∃ (x11_2:Int) (x36_2:Int),v11= .int .i64 x11_2∧v36= .int .i64 x36_2∧Z0 (Qbc.l1 kq l1 a3 x10_1 x11_2 t153 x36_2 l0_0=some (r1,r2))∧Z0 (kq≤k1)∧Z0 (w'.heap[gb146]? =some (.cells #[(.slice (some ad147) l0_0.length c0_0)] 26 (0,0)))∧Z0 (Below w.heap.size w w'))
      case atStart=>exact ⟨(a2),(0),(by first|rfl|(simp;done)|(simp [*];done)),(by first|rfl|(simp;done)|(simp [*];done)),H',⟨Nat.le_refl _⟩,⟨uK BK146⟩,⟨(vB HB)⟩⟩
      case round=>
       clear H'
       try clear c12b0 hcz19_0 hfz19_0
       obtain ⟨x11_2,x36_2,rfl,rfl,HA,HK2,BK146,HB⟩:=hrel;cases gk with
       |zero=>exact absurd HA.out (by simp [Qbc.l1])
       |succ k2=>
        have H:=HA.out;clear HA;simp only [Qbc.l1] at H
        by_cases c21:x36_2<t153
        ·
         rw [if_pos c21] at H;have c21b0:=decide_eq_true c21;clear c21
         by_cases c22:0≤x36_2
         ·
          rw [if_pos c22] at H;have c22b0:=decide_eq_true c22;clear c22
          by_cases c23:x36_2<(l0_0.length:Int)
          ·
           rw [if_pos c23] at H;have c23b0:=decide_eq_true c23;clear c23;obtain ⟨t155,A24,H⟩:=bs H;(try dsimp only at H)
           by_cases c25:t155=true
           ·
            subst c25;rw [if_pos rfl] at H
            by_cases c26:x36_2<(l1.length:Int)
            ·
             rw [if_pos c26] at H;have c26b0:=decide_eq_true c26;clear c26;obtain ⟨ji27,hji27⟩: ∃ j_:Int,(mn x11_2 (rd l1 x36_2))=j_:=⟨_,rfl⟩
             replace H:(Qbc.l1 k2 l1 a3 x10_1 ji27 t153 (wrap64 (x36_2+1)) l0_0)=some (r1,r2):=by first|(rw [hji27] at H;exact H)|(simp only [hji27] at H ⊢;exact H)
             (try rw [hji27] at A24)
             have hji27_:(if (rd l1 x36_2)<x11_2 then (rd l1 x36_2) else x11_2)=ji27:=hji27;have H':=Zk H;clear H;have hcz28_0:=bC BK146;have hfz28_0:=Qg BK146.out 0;have p154:0≤(x36_2:Int):=of_decide_eq_true (by first|(with_reducible assumption)|assumption);have q154:x36_2<(l0_0.length:Int):=of_decide_eq_true (by first|(with_reducible assumption)|assumption);obtain ⟨ad154,e154,hx154_0⟩:=Kd.at_int HR0_0.out x36_2 p154 q154;obtain rfl:ad147=ad154:=(by injection e154)
             replace hx154_0:=(HB.out.cell (World.block_lt_of_cell? w _ hx154_0)).trans hx154_0;replace p154:=eq_true p154;replace q154:=eq_true q154;go_wp2_with (first|(refine gA (some 45) Try.func104 #[.int .i64 (rd l0_0 x36_2), .int .i64 a3] ?_;(with_reducible refine (Qel.calls (rd l0_0 x36_2) a3 true _ A24.out).mono ?_);rintro e w' ⟨rfl,⟨nd,rfl⟩⟩;refine ⟨_,rfl,?_⟩;have p156:0≤(x36_2:Int):=of_decide_eq_true (by first|(with_reducible assumption)|assumption);have q156:x36_2<(l1.length:Int):=of_decide_eq_true (by first|(with_reducible assumption)|assumption);obtain ⟨ad156,e156,hx156_0⟩:=Kd.at_int HR1.out x36_2 p156 q156;cases e156;replace hx156_0:=(HB.out.cell (World.block_lt_of_cell? w _ hx156_0)).trans hx156_0;replace p156:=eq_true p156;replace q156:=eq_true q156));go_roundg k2
             case measure=>have:=HK1.out;have:=HK2.out;omega
             case rel=>exact ⟨(ji27),(wrap64 (x36_2+1)),(by first|rfl|(simp;done)|(simp only [←hji27] <;>(first|rfl|simp))|(simp [*];done)),(by first|rfl|(simp;done)|(simp [*];done)),H',⟨by have:=HK1.out;have:=HK2.out;omega⟩,⟨uK BK146⟩,⟨(vB HB)⟩⟩
            ·
             rw [if_neg c26] at H;exact absurd H (by simp)
           ·
            replace c25:=Bool.eq_false_iff.mpr c25;subst c25;rw [if_neg (show ¬ (false=true) by decide)] at H;have H':=Zk H;clear H;have hcz29_0:=bC BK146;have hfz29_0:=Qg BK146.out 0;have p154:0≤(x36_2:Int):=of_decide_eq_true (by first|(with_reducible assumption)|assumption);have q154:x36_2<(l0_0.length:Int):=of_decide_eq_true (by first|(with_reducible assumption)|assumption);obtain ⟨ad154,e154,hx154_0⟩:=Kd.at_int HR0_0.out x36_2 p154 q154;obtain rfl:ad147=ad154:=(by injection e154)
            replace hx154_0:=(HB.out.cell (World.block_lt_of_cell? w _ hx154_0)).trans hx154_0;replace p154:=eq_true p154;replace q154:=eq_true q154;go_wp2_with (first|(refine gA (some 45) Try.func104 #[.int .i64 (rd l0_0 x36_2), .int .i64 a3] ?_;(with_reducible refine (Qel.calls (rd l0_0 x36_2) a3 false _ A24.out).mono ?_);rintro e w' ⟨rfl,⟨nd,rfl⟩⟩;refine ⟨_,rfl,?_⟩));go_roundg k2
            case measure=>have:=HK1.out;have:=HK2.out;omega
            case rel=>exact ⟨(x11_2),(wrap64 (x36_2+1)),(by first|rfl|(simp;done)|(simp [*];done)),(by first|rfl|(simp;done)|(simp [*];done)),H',⟨by have:=HK1.out;have:=HK2.out;omega⟩,⟨uK BK146⟩,⟨(vB HB)⟩⟩
          ·
           rw [if_neg c23] at H;exact absurd H (by simp)
         ·
          rw [if_neg c22] at H;exact absurd H (by simp)
        ·
         rw [if_neg c21] at H;have c21b0:=decide_eq_false c21;clear c21;simp only [Option.some.injEq,Prod.mk.injEq] at H;obtain ⟨rfl,rfl⟩:=H;go_wp2
         go_ret2
         exact ⟨by first|rfl|(simp [Qe,Qf] <;>rfl)|(simp [*,Qe,Qf] <;>rfl),(vB HB)⟩
  ·
   rw [if_neg c6] at H;exact absurd H (by simp)
 ·
  rw [if_neg c5] at H;exact absurd H (by simp)
def Qb3.l0:Nat→List Int→Int→List Int→Int→Int→List Int→Option (List Int)
 |0,_,_,_,_,_,_=>none
 |k+1,x1,x2,x12,x13,x14,x158000=>if x14<x13 then (if 0≤x14 then (if x14<(x12.length:Int) then ((Qbc.f k x158000 x1 x2 (rd x12 x14)).bind fun bt159=>(if 0≤(rd x12 x14) then (if (rd x12 x14)<(x1.length:Int) then (Qb3.l0 k (x1.set ((rd x12 x14):Int).toNat (wrap64 ((wrap64 (bt159.1+bt159.2)) - (rd x1 (rd x12 x14))))) x2 x12 x13 (wrap64 (x14+1)) x158000) else (none)) else (none))) else (none)) else (none)) else (some x1)
def Qb3.f (k:Nat) (l0_0:List Int) (l1:List Int) (a2:Int) (l3:List Int):Option (List Int):=Qb3.l0 k l1 a2 l3 (l3.length:Int) 0 l0_0
theorem Qb3.mono_l: ∀ k,(∀ y0 y1 y2 y3 y4 y5,LeO (Qb3.l0 k y0 y1 y2 y3 y4 y5) (Qb3.l0 (k+1) y0 y1 y2 y3 y4 y5))
 |0=>fun _ _ _ _ _ _ r h=>by simp [Qb3.l0] at h
 |k+1=>by
  have ih0:=Qb3.mono_l k
  ·
   intro y0 y1 y2 y3 y4 y5;unfold Qb3.l0
   repeat' first
   |(with_reducible exact ih0 _ _ _ _ _ _)
   |(with_reducible exact Qbc.mono _ _ _ _ _)
   |(with_reducible exact LeO.refl _)
   |(with_reducible exact LeO.none _)
   |(with_reducible refine LeO.ite ?_ ?_)
   |(with_reducible refine LeO.bind ?_ (fun _=> ?_))
   |exact ih0 _ _ _ _ _ _
   |exact Qbc.mono _ _ _ _ _
   |exact LeO.none _
   |refine LeO.ite ?_ ?_
   |refine LeO.bind ?_ (fun _=> ?_)
theorem Qb3.mono: ∀ a0 a1 a2 a3 k,LeO (Qb3.f k a0 a1 a2 a3) (Qb3.f (k+1) a0 a1 a2 a3):=by
 intro a0 a1 a2 a3 k;have ih0:=Qb3.mono_l k;unfold Qb3.f
 repeat' (with_reducible first|apply ih0|apply Qbc.mono|exact LeO.refl _|exact LeO.none _|refine LeO.ite ?_ ?_|refine LeO.bind ?_ (fun _=> ?_))
set_option maxHeartbeats 8000000 in
set_option maxRecDepth 100000 in
theorem Qb3.calls (k:Nat) (A0_0:Option Addr) (c0_0:Nat) (l0_0:List Int) (P1_:Nat→Prop) (u9000_:Value) (l1:List Int) (a2:Int) (A3:Option Addr) (c3:Nat) (l3:List Int) (r:List Int) (w0 w:World) (hB:Below w0.heap.size w0 w) (hr0_0: ∀ W_,Kept w W_ (fun k_=>P1_ k_)→Kd.C (Kd.int .i64) W_ A0_0 l0_0.length l0_0) (hc0_0:l0_0.length≤c0_0) (ho1:Kd.R (Kd.int .i64) 3 w w0.heap.size P1_ u9000_ l1) (hr3: ∀ W_,Kept w W_ (fun k_=>P1_ k_)→Kd.C (Kd.int .i64) W_ A3 l3.length l3) (hc3:l3.length≤c3) (h:Qb3.f k l0_0 l1 a2 l3=some r):
 Calls Try.prog 68 #[.agg #[.slice A0_0 l0_0.length c0_0],u9000_, .int .i64 a2, .slice A3 l3.length c3] w fun e w'=>e= .returned (.tuple #[])∧Kd.R (Kd.int .i64) 3 w' w0.heap.size (fun k_=>(P1_ k_∨w.heap.size≤k_)) u9000_ r∧Below w0.heap.size w0 w'∧Kept w w' (fun k_=>P1_ k_):=by
 have hu26:=Try.underlying26;have HR0_0:=Zk hr0_0;have HC0_0:=Zk hc0_0;clear hr0_0 hc0_0;have HO1:=Zk (show Kd.R (Kd.int .i64) 3 w w0.heap.size (fun k_=>(P1_ k_∨w.heap.size≤k_)) u9000_ l1 from Kd.R_mono ho1 (fun k_ hk=>(.inl hk)));have HR3:=Zk hr3;have HC3:=Zk hc3;clear hr3 hc3;have HK:=Zk (Kept.refl w (fun k_=>P1_ k_));have HW0:=Zk hB.size;have HB:=Zk hB;clear hB;have H:(Qb3.l0 k l1 a2 l3 (l3.length:Int) 0 l0_0)=some r:=h;clear h;have H':=Zk H;clear H;go_enter Try.func68,Try.ntmps68;go_wp2_with (first|(refine bE (N:=4) (cs:= #[.slice A0_0 l0_0.length c0_0]) (t:=26) ?_;intro gb157 hg w5 hbox hb;replace HO1:=Zk (Kd.R_below (uR HO1) hb);have BK157:=Zk (hbox);have GW157:=Zk ((by rw [hg];exact (by first|exact HK.out.1|exact (show Kept w _ (fun k_=>P1_ k_) from by repeat (first|(with_reducible first|exact HK.out|apply Kept.alloc|apply Kept.drewN|apply Kept.drew)|exact HK.out)).1):w.heap.size≤gb157));replace HK:=Zk (Kept.below (S:=(fun k_=>P1_ k_)) (by repeat (first|(with_reducible first|exact HK.out|apply Kept.alloc|apply Kept.drewN|apply Kept.drew)|exact HK.out)) hb);have GE157:=Zk ((by rw [hg];exact (Qh (uB HB)):w0.heap.size≤gb157));replace HB:=Zk (Qc (uB HB) hb);clear hb hbox hg))
 go_loopg [14] k (fun kq v14 w'=> ∃ (x1_1:List Int) (x14_1:Int),v14= .int .i64 x14_1∧Z0 (Qb3.l0 kq x1_1 a2 l3 (l3.length:Int) x14_1 l0_0=some r)∧Z0 (kq≤k)∧Z0 (Kd.R (Kd.int .i64) 3 w' w0.heap.size (fun k_=>(P1_ k_∨w.heap.size≤k_)) u9000_ x1_1)∧Z0 (w'.heap[gb157]? =some (.cells #[(.slice A0_0 l0_0.length c0_0)] 26 (0,0)))∧Z0 (Kept w w' (fun k_=>P1_ k_))∧Z0 (Below w0.heap.size w0 w'))
 case atStart=>exact ⟨(l1),(0),(by first|rfl|(simp;done)|(simp [*];done)),H',⟨Nat.le_refl _⟩,⟨uR HO1⟩,⟨uK BK157⟩,⟨by repeat (first|(with_reducible first|exact HK.out|apply Kept.alloc|apply Kept.drewN|apply Kept.drew|refine Kept.setCell ?_ (.inr GW157.out) _)|exact HK.out)⟩,⟨(vB HB)⟩⟩
 case round=>
  clear H'
  skip
  obtain ⟨x1_1,x14_1,rfl,HA,HK1,HO_1,BK157,HK,HB⟩:=hrel;cases gk with
  |zero=>exact absurd HA.out (by simp [Qb3.l0])
  |succ k1=>
   have H:=HA.out;clear HA;simp only [Qb3.l0] at H
   by_cases c6:x14_1<(l3.length:Int)
   ·
    rw [if_pos c6] at H;have c6b0:=decide_eq_true c6;clear c6
    by_cases c7:0≤x14_1
    ·
     rw [if_pos c7] at H;have c7b0:=decide_eq_true c7;clear c7
     by_cases c8:x14_1<(l3.length:Int)
     ·
      rw [if_pos c8] at H;have c8b0:=decide_eq_true c8;clear c8;obtain ⟨⟨t159,t160⟩,A9,H⟩:=bs H;(try dsimp only at H)
      by_cases c10:0≤(rd l3 x14_1)
      ·
       rw [if_pos c10] at H;have c10b0:=decide_eq_true c10;clear c10
       by_cases c11:(rd l3 x14_1)<(x1_1.length:Int)
       ·
        rw [if_pos c11] at H;have c11b0:=decide_eq_true c11;clear c11;obtain ⟨y162,hy162⟩: ∃ y_:List Int,y_=(x1_1.set ((rd l3 x14_1):Int).toNat (wrap64 ((wrap64 (t159+t160)) - (rd x1_1 (rd l3 x14_1))))):=⟨_,rfl⟩
        replace H:(Qb3.l0 k1 y162 a2 l3 (l3.length:Int) (wrap64 (x14_1+1)) l0_0)=some r:=by first|(rw [hy162];with_reducible exact H)|(have H2_:=(Option.bind_some _ _).symm.trans H;rw [hy162];with_reducible exact H2_)|(have H2_:=(Option.bind_some _ _).symm.trans H;with_reducible exact H2_)|with_reducible exact H|(rw [hy162];exact H)|exact H
        have Ny162:=Zk hy162;clear hy162;have H':=Zk H;clear H;have p158:0≤(x14_1:Int):=of_decide_eq_true (by first|(with_reducible assumption)|assumption);have q158:x14_1<(l3.length:Int):=of_decide_eq_true (by first|(with_reducible assumption)|assumption);obtain ⟨ad158,e158,hx158_0⟩:=Kd.at_int (Kd.C_kept_now HR3.out HK.out) x14_1 p158 q158;cases e158;replace p158:=eq_true p158;replace q158:=eq_true q158;have hcz13_0:=bC BK157;have hfz13_0:=Qg BK157.out 0;obtain ⟨Ao14,co14,eo14⟩:=Kd.R_slice HO_1.out;subst eo14;go_wp2_with (first|(refine gA (some 23) Try.func82 #[.agg #[.slice A0_0 l0_0.length c0_0], .slice Ao14 x1_1.length co14, .int .i64 a2, .int .i64 (rd l3 x14_1)] ?_;(with_reducible refine (Qbc.calls k1 _ _ l0_0 _ _ x1_1 a2 (rd l3 x14_1) t159 t160 _ ?side1 HC0_0.out (uE HO_1) ?side4 A9.out).mono ?_);(case side1=>exact Kd.C_kept_now HR0_0.out (by repeat (first|(with_reducible first|exact HK.out|apply Kept.alloc|apply Kept.drewN|apply Kept.drew|refine Kept.setCell ?_ (.inr GW157.out) _)|exact HK.out)));(case side4=>exact (Kd.R_reads' HO_1.out).2.1);rintro e w15 ⟨rfl,hb⟩;refine ⟨_,rfl,?_⟩;replace HO_1:=Zk (Kd.R_below (uR HO_1) hb);replace BK157:=Zk (Qd (uK BK157) hb);replace HK:=Zk (Kept.below (S:=(fun k_=>P1_ k_)) (by repeat (first|(with_reducible first|exact HK.out|apply Kept.alloc|apply Kept.drewN|apply Kept.drew|refine Kept.setCell ?_ (.inr GW157.out) _)|exact HK.out)) hb);replace HB:=Zk (Qc (vB HB) hb);(try clear hb);have p161:0≤((rd l3 x14_1):Int):=of_decide_eq_true (by first|(with_reducible assumption)|assumption);have q161:(rd l3 x14_1)<(x1_1.length:Int):=of_decide_eq_true (by first|(with_reducible assumption)|assumption);obtain ⟨ad161,e161,hx161_0⟩:=Kd.at_int (Kd.R_reads' HO_1.out).2.2 (rd l3 x14_1) p161 q161;cases e161;replace p161:=eq_true p161;replace q161:=eq_true q161;have p12:0≤((rd l3 x14_1):Int):=of_decide_eq_true (by first|(with_reducible assumption)|assumption);have q12:((rd l3 x14_1):Int)<((x1_1.length:Int):Int):=of_decide_eq_true (by first|(with_reducible assumption)|assumption);obtain ⟨go12,co12,eo12,gb12,gl12,cl12,HG12⟩:=Kd.R_form HO_1.out (by omega);(first|cases eo12|(injection eo12 with ea_ en_ ec_;(first|subst ea_|(injection ea_ with ea_;subst ea_));subst ec_;clear en_));have GB12:=Zk gb12;have GG12:=Zk HG12;clear gb12 gl12 HG12;have HMgo12:=Zk (show (P1_ go12∨w.heap.size≤go12) from (HO_1.out.1 _ rfl));(first|simp only [Qeu] at hx161_0|skip);obtain ⟨hx12_0,hf12_0⟩:=Kd.R_celln 0 HO_1.out ((rd l3 x14_1):Int) p12 q12;replace p12:=eq_true p12;replace q12:=eq_true q12;obtain ⟨hy16_,hz16_⟩:=Kd.R_celln 0 HO_1.out ((rd l3 x14_1):Int) (of_decide_eq_true (by first|(with_reducible assumption)|assumption)) (of_decide_eq_true (by first|(with_reducible assumption)|assumption));have HP16:=Kd.R_putg HO_1.out ((rd l3 x14_1):Int) (wrap64 ((wrap64 (t159+t160)) - (rd x1_1 (rd l3 x14_1)))))|((with_reducible refine Qf9 (t:=3) (p:=36) rfl ?_);refine Qfv (t:=3) (p:=36) (v:= ?vo_w17) (w1:=(w15.setCell ⟨go12,((rd l3 x14_1):Int).toNat,none⟩ (.int .i64 (wrap64 ((wrap64 (t159+t160)) - (rd x1_1 (rd l3 x14_1))))))) ?hg ?ho ?hn ?hr ?_;(case ho=>rfl);(case hg=>rfl);(case hn=>rfl);(case hr=>first|(go_simp;done)|(go_simp;rfl));intro w17 hw;have hg:w15.grownBy w17 (some go12):=(by rw [hw];exact HP16.2);have hp_:Kd.R (Kd.int .i64) 3 w17 w0.heap.size (fun k_=>(P1_ k_∨w.heap.size≤k_)) (.slice (some ⟨go12,0,none⟩) x1_1.length co14) y162:=(by rw [hw,Ny162.out];exact HP16.1);clear HP16;replace BK157:=Zk (Qb8 (uK BK157) hg (Kd.R_ne HO_1.out BK157.out (by decide)));replace HB:=Zk ((by rw [hw];exact Q1 (HB.out) GB12.out:Below w0.heap.size w0 w17));replace HK:=Zk (Kept.of_grown (S:=(fun k_=>P1_ k_)) hg (by repeat (first|(with_reducible first|exact HK.out|apply Kept.alloc|apply Kept.drewN|apply Kept.drew|refine Kept.setCell ?_ (.inr GW157.out) _)|exact HK.out)) (fun k_ e_=>(HO_1.out.1 k_ e_)));replace HO_1:=Zk (hp_);clear hg hw hp_));go_roundg k1
        case measure=>have:=HK1.out;omega
        case rel=>exact ⟨(y162),(wrap64 (x14_1+1)),(by first|rfl|(simp;done)|(simp [*];done)),H',⟨by have:=HK1.out;omega⟩,⟨uR HO_1⟩,⟨uK BK157⟩,⟨by repeat (first|(with_reducible first|exact HK.out|apply Kept.alloc|apply Kept.drewN|apply Kept.drew|refine Kept.setCell ?_ (.inr GW157.out) _)|exact HK.out)⟩,⟨(vB HB)⟩⟩
       ·
        rw [if_neg c11] at H;exact absurd H (by simp)
      ·
       rw [if_neg c10] at H;exact absurd H (by simp)
     ·
      rw [if_neg c8] at H;exact absurd H (by simp)
    ·
     rw [if_neg c7] at H;exact absurd H (by simp)
   ·
    rw [if_neg c6] at H;have c6b0:=decide_eq_false c6;clear c6;obtain rfl:=Option.some.inj H;go_wp2
    first|go_end0|((try simp only [Exit.inBlock,Exit.then]);refine bodyPost_ret (results_none rfl _ _ _) rfl ?_)
    exact ⟨by first|rfl|(simp [Qe,Qf] <;>rfl)|(simp [*,Qe,Qf] <;>rfl),uR HO_1,(vB HB),by repeat (first|(with_reducible first|exact HK.out|apply Kept.alloc|apply Kept.drewN|apply Kept.drew|refine Kept.setCell ?_ (.inr GW157.out) _)|exact HK.out)⟩
def Qs.l0:Nat→List Int→Int→Int→Option (List Int)
 |0,_,_,_=>none
 |k+1,x0,x2,x3=>if x2<x3 then (if 0≤x3 then (if x3<(x0.length:Int) then (if 0≤x2 then (if x2<(x0.length:Int) then (Qs.l0 k ((x0.set (x2:Int).toNat (rd x0 x3)).set (x3:Int).toNat (rd x0 x2)) (wrap64 (x2+1)) (wrap64 (x3 - 1))) else (none)) else (none)) else (none)) else (none)) else (some x0)
def Qs.f (k:Nat) (l0:List Int):Option (List Int):=Qs.l0 k l0 0 (wrap64 ((l0.length:Int) - 1))
theorem Qs.mono_l: ∀ k,(∀ y0 y1 y2,LeO (Qs.l0 k y0 y1 y2) (Qs.l0 (k+1) y0 y1 y2))
 |0=>fun _ _ _ r h=>by simp [Qs.l0] at h
 |k+1=>by
  have ih0:=Qs.mono_l k
  ·
   intro y0 y1 y2;unfold Qs.l0
   repeat' first
   |(with_reducible exact ih0 _ _ _)
   |(with_reducible exact LeO.refl _)
   |(with_reducible exact LeO.none _)
   |(with_reducible refine LeO.ite ?_ ?_)
   |(with_reducible refine LeO.bind ?_ (fun _=> ?_))
   |exact ih0 _ _ _
   |exact LeO.none _
   |refine LeO.ite ?_ ?_
   |refine LeO.bind ?_ (fun _=> ?_)
theorem Qs.mono: ∀ a0 k,LeO (Qs.f k a0) (Qs.f (k+1) a0):=by
 intro a0 k;have ih0:=Qs.mono_l k;unfold Qs.f
 repeat' (with_reducible first|apply ih0|exact LeO.refl _|exact LeO.none _|refine LeO.ite ?_ ?_|refine LeO.bind ?_ (fun _=> ?_))
def Qs.T3:Bool × List (List Nat × List Nat):=(true,[([],[]),([],[]),([],[]),([],[]),([],[]),([],[]),([4,5],[4,5]),([6],[6]),([],[]),([],[]),([8,9],[8,9]),([10],[10]),([0,1,0,1,4,5,6,7,11],[0,1]),([12,7,0,1,4,5,6,7,11],[7,12]),([2,3,0,1,2,3,4,5,6,7,8,9,10,11,12,13],[2,3]),([14,11,13,0,1,2,3,4,5,6,7,8,9,10,11,12,13],[11,14])])
def Qs.B3:List Nat:= [0,0,0,0,0,0,48,112,0,0,768,1792,4083,8179,16383,32767]
theorem Qs.tab3:rtab .any (Qfx Try.f93 3)=Qs.T3:=by kernel_rfl
theorem Qs.bits3:Qem Qs.T3.2 Qs.B3=true:=by kernel_rfl
set_option maxHeartbeats 8000000 in
set_option maxRecDepth 100000 in
theorem Qs.calls (k:Nat) (P0_:Nat→Prop) (u9000_:Value) (l0:List Int) (r:List Int) (w0 w:World) (hB:Below w0.heap.size w0 w) (ho0:Kd.R (Kd.int .i64) 3 w w0.heap.size P0_ u9000_ l0) (h:Qs.f k l0=some r):
 Calls Try.prog 93 #[u9000_] w fun e w'=>e= .returned (.tuple #[])∧Kd.R (Kd.int .i64) 3 w' w0.heap.size (fun k_=>(P0_ k_∨w.heap.size≤k_)) u9000_ r∧Below w0.heap.size w0 w'∧Kept w w' (fun k_=>P0_ k_):=by
 have HO0:=Zk (show Kd.R (Kd.int .i64) 3 w w0.heap.size (fun k_=>(P0_ k_∨w.heap.size≤k_)) u9000_ l0 from Kd.R_mono ho0 (fun k_ hk=>(.inl hk)));have HK:=Zk (Kept.refl w (fun k_=>P0_ k_));have HW0:=Zk hB.size;have HB:=Zk hB;clear hB;have H:(Qs.l0 k l0 0 (wrap64 ((l0.length:Int) - 1)))=some r:=h;clear h;have H':=Zk H;clear H;obtain ⟨Ao2,co2,eo2⟩:=Kd.R_slice HO0.out;subst eo2;go_enter Try.func93,Try.ntmps93;go_wp2
 go_loopg [2,3] k (fun kq v2 v3 w'=> ∃ (x0_1:List Int) (x2_1:Int) (x3_1:Int),v2= .int .i64 x2_1∧v3= .int .i64 x3_1∧Z0 (Qs.l0 kq x0_1 x2_1 x3_1=some r)∧Z0 (kq≤k)∧Z0 (Kd.R (Kd.int .i64) 3 w' w0.heap.size (fun k_=>(P0_ k_∨w.heap.size≤k_)) (.slice Ao2 l0.length co2) x0_1)∧Z0 (Kept w w' (fun k_=>P0_ k_))∧Z0 (Below w0.heap.size w0 w'))
 case atStart=>exact ⟨(l0),(0),(wrap64 ((l0.length:Int) - 1)),(by first|rfl|(simp;done)|(simp [*];done)),(by first|rfl|(simp;done)|(simp [*];done)),H',⟨Nat.le_refl _⟩,⟨uR HO0⟩,⟨by repeat (first|(with_reducible first|exact HK.out|apply Kept.alloc|apply Kept.drewN|apply Kept.drew)|exact HK.out)⟩,⟨uB HB⟩⟩
 case round=>
  clear H'
  skip
  obtain ⟨x0_1,x2_1,x3_1,rfl,rfl,HA,HK1,HO_0,HK,HB⟩:=hrel;have hl0_1:=(Kd.R_reads' HO_0.out).1;rw [hl0_1] at HO_0
  (try simp only [hl0_1])
  cases gk with
  |zero=>exact absurd HA.out (by simp [Qs.l0])
  |succ k1=>
   have H:=HA.out;clear HA;simp only [Qs.l0] at H
   by_cases c3:x2_1<x3_1
   ·
    rw [if_pos c3] at H;have c3b0:=decide_eq_true c3;clear c3
    by_cases c4:0≤x3_1
    ·
     rw [if_pos c4] at H;have c4b0:=decide_eq_true c4;clear c4
     by_cases c5:x3_1<(x0_1.length:Int)
     ·
      rw [if_pos c5] at H;have c5b0:=decide_eq_true c5;clear c5
      by_cases c6:0≤x2_1
      ·
       rw [if_pos c6] at H;have c6b0:=decide_eq_true c6;clear c6
       by_cases c7:x2_1<(x0_1.length:Int)
       ·
        rw [if_pos c7] at H;have c7b0:=decide_eq_true c7;clear c7;obtain ⟨y165,hy165⟩: ∃ y_:List Int,y_=(x0_1.set (x2_1:Int).toNat (rd x0_1 x3_1)):=⟨_,rfl⟩
        replace H:(Qs.l0 k1 (y165.set (x3_1:Int).toNat (rd x0_1 x2_1)) (wrap64 (x2_1+1)) (wrap64 (x3_1 - 1)))=some r:=by first|(rw [hy165];with_reducible exact H)|(have H2_:=(Option.bind_some _ _).symm.trans H;rw [hy165];with_reducible exact H2_)|(have H2_:=(Option.bind_some _ _).symm.trans H;with_reducible exact H2_)|with_reducible exact H|(rw [hy165];exact H)|exact H
        have Ny165:=Zk hy165;clear hy165;obtain ⟨y166,hy166⟩: ∃ y_:List Int,y_=(y165.set (x3_1:Int).toNat (rd x0_1 x2_1)):=⟨_,rfl⟩
        replace H:(Qs.l0 k1 y166 (wrap64 (x2_1+1)) (wrap64 (x3_1 - 1)))=some r:=by first|(rw [hy166];with_reducible exact H)|(have H2_:=(Option.bind_some _ _).symm.trans H;rw [hy166];with_reducible exact H2_)|(have H2_:=(Option.bind_some _ _).symm.trans H;with_reducible exact H2_)|with_reducible exact H|(rw [hy166];exact H)|exact H
        have Ny166:=Zk hy166;clear hy166;have H':=Zk H;clear H
        try go_wp2
        replace HO_0:=Zk (Kd.R_drew HO_0.out);replace HK:=Zk (Kept.drew HK.out);replace HB:=Zk (Qbb HB.out);have p163:0≤(x3_1:Int):=of_decide_eq_true (by first|(with_reducible assumption)|assumption);have q163:x3_1<(x0_1.length:Int):=of_decide_eq_true (by first|(with_reducible assumption)|assumption);obtain ⟨ad163,e163,hx163_0⟩:=Kd.at_int (Kd.R_reads' HO_0.out).2.2 x3_1 p163 q163;cases e163;replace p163:=eq_true p163;replace q163:=eq_true q163;have p164:0≤(x2_1:Int):=of_decide_eq_true (by first|(with_reducible assumption)|assumption);have q164:x2_1<(x0_1.length:Int):=of_decide_eq_true (by first|(with_reducible assumption)|assumption);obtain ⟨ad164,e164,hx164_0⟩:=Kd.at_int (Kd.R_reads' HO_0.out).2.2 x2_1 p164 q164;obtain rfl:ad163=ad164:=(by injection e164)
        replace p164:=eq_true p164;replace q164:=eq_true q164;have p8:0≤(x2_1:Int):=of_decide_eq_true (by first|(with_reducible assumption)|assumption);have q8:(x2_1:Int)<((x0_1.length:Int):Int):=of_decide_eq_true (by first|(with_reducible assumption)|assumption);obtain ⟨go8,co8,eo8,gb8,gl8,cl8,HG8⟩:=Kd.R_form HO_0.out (by omega)
        (first|cases eo8|(injection eo8 with ea_ en_ ec_;(first|subst ea_|(injection ea_ with ea_;subst ea_));subst ec_;clear en_))
        have GB8:=Zk gb8;have GG8:=Zk HG8;clear gb8 gl8 HG8;have HMgo8:=Zk (show (P0_ go8∨w.heap.size≤go8) from (HO_0.out.1 _ rfl))
        (first|simp only [Qeu] at hx163_0|skip)
        (first|simp only [Qeu] at hx164_0|skip)
        obtain ⟨hx8_0,hf8_0⟩:=Kd.R_celln 0 HO_0.out (x2_1:Int) p8 q8;replace p8:=eq_true p8;replace q8:=eq_true q8;have HP11:=Kd.R_putn HO_0.out (x2_1:Int) (rd x0_1 x3_1);rw [←Ny165.out] at HP11;have HQ11:=Zk HP11;clear HP11;have p9:0≤(x3_1:Int):=of_decide_eq_true (by first|(with_reducible assumption)|assumption);have q9:(x3_1:Int)<((x0_1.length:Int):Int):=of_decide_eq_true (by first|(with_reducible assumption)|assumption);obtain ⟨hx9_0,hf9_0⟩:=Kd.R_celln 0 HQ11.out (x3_1:Int) p9 q9;replace p9:=eq_true p9;replace q9:=eq_true q9;have HP12:=Kd.R_putn HQ11.out (x3_1:Int) (rd x0_1 x2_1);rw [←Ny166.out] at HP12;have HQ12:=Zk HP12;clear HP12;refine sU (n:=16) (S:=fun w'=>w'.cell? ⟨go8,(x3_1).toNat,none⟩=some (.int .i64 (rd x0_1 x3_1))∧w'.cell? ⟨go8,(x2_1).toNat,none⟩=some (.int .i64 (rd x0_1 x2_1))) (ds:= [13,15]) ⟨hx163_0,hx164_0⟩ (fun hHeld=> ?_);refine Qe5 Qs.tab3 Qs.bits3 (fun HT_ HW_=> ?_);generalize wr.drew=w10 at HO_0 HK HB GG8 HQ11 HQ12 hf8_0 hf9_0 hx163_0 hx164_0 hx8_0 hx9_0 hHeld ⊢;refine pU 0 14 ?_;refine pU 1 15 ?_;refine pU 2 16 ?_;refine pU 3 17 ?_;refine pU 4 18 ?_;refine pU 5 19 ?_;refine pU 6 20 ?_;refine pU 8 22 ?_;refine pU 9 23 ?_;refine pU 10 24 ?_;refine tW 7 21 hHeld ?_;refine tW 11 25 hHeld ?_;refine pU 12 26 ?_;refine lU 13 none fun K hK=> ?_
        refine sK ?_;refine hK.out _ _ ?_;clear hK K;refine pU 14 27 ?_;refine lU 15 none fun K hK=> ?_
        refine sK ?_;refine hK.out _ _ ?_;clear hK K;refine dU ?_
        try go_wp2
        (try simp only [←hl0_1])
        go_roundg k1
        case measure=>have:=HK1.out;omega
        case rel=>exact ⟨(y166),(wrap64 (x2_1+1)),(wrap64 (x3_1 - 1)),(by first|rfl|(simp;done)|(simp [*];done)),(by first|rfl|(simp;done)|(simp [*];done)),H',⟨by have:=HK1.out;omega⟩,⟨by (try simp only [hl0_1]);(with_reducible repeat (first|apply Kd.R_alloc|apply Kd.R_drewN|apply Kd.R_drew));exact HQ12.out⟩,⟨by repeat (first|(with_reducible first|exact HK.out|apply Kept.alloc|apply Kept.drewN|apply Kept.drew|refine Kept.setCell ?_ HMgo8.out _|refine Kept.setCell ?_ HMgo8.out _)|exact HK.out)⟩,⟨(vB HB)⟩⟩
       ·
        rw [if_neg c7] at H;exact absurd H (by simp)
      ·
       rw [if_neg c6] at H;exact absurd H (by simp)
     ·
      rw [if_neg c5] at H;exact absurd H (by simp)
    ·
     rw [if_neg c4] at H;exact absurd H (by simp)
   ·
    rw [if_neg c3] at H;have c3b0:=decide_eq_false c3;clear c3;obtain rfl:=Option.some.inj H;go_wp2
    first|go_end0|((try simp only [Exit.inBlock,Exit.then]);refine bodyPost_ret (results_none rfl _ _ _) rfl ?_)
    exact ⟨by first|rfl|(simp [Qe,Qf] <;>rfl)|(simp [*,Qe,Qf] <;>rfl),(by first|exact (uR HO_0)|(simp only [hl0_1];exact (uR HO_0))),uB HB,by repeat (first|(with_reducible first|exact HK.out|apply Kept.alloc|apply Kept.drewN|apply Kept.drew)|exact HK.out)⟩
end Go.Proofs.Ytkgngggppcmpfaa.L
end
