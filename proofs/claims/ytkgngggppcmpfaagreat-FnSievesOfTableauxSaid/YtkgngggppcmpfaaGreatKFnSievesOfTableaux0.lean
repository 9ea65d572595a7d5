/- Laws about the given program: the law FnSievesOfTableaux answers true for every input that its row lets in; no condition is added to the given statement. Contracts of the Go functions that it reaches, and the plain proof over lists. -/
import Derived.ArgAppend
import Derived.Below
import Derived.BigQuiet
import Derived.Deep.AppendLies
import Derived.Deep.CutBlock
import Derived.Deep.DeepCutAuto
import Derived.Deep.Draws
import Derived.Deep.LoopGhost
import Derived.Deep.MidRow
import Derived.Deep.OwnRows
import Derived.Deep.QuietTactic
import Derived.Deep.RegionHeld3
import Derived.Deep.RegionLaw
import Derived.DeepKeys4
import Derived.Great.BuildSlice
import Derived.KernelRfl
import Derived.Laws.BitsLemmas
import Derived.Laws.BytesArg
import Derived.Laws.CopyOwn
import Derived.Laws.IdiomCopy
import Derived.Laws.MakeOwn
import Derived.Laws.OwnMore
import Derived.Laws.Rows
import Derived.Laws.Slices
import Derived.Lib.AppendStr
import Derived.Lib.ConvBytes
import Derived.Lib.SliceRun
import Derived.Maps.AppendAt
import Derived.Maps.OwnOps
import Derived.Maps.OwnSet
import Derived.Maps.RangeWalk
import Derived.OrdersHeld
import Derived.OwnWalk
import Derived.RowKit
import Derived.RowKit3
import Derived.Shelf.Abstract
import Derived.Shelf.SlGeneric
import Derived.Shelf.SortM.Plain
import Derived.Shelf.SortM.SortNone
import Derived.Tactics
import Derived.Test.YtkgngggppcmpfaaGreatProg
import Derived.WalkKit
import Derived.WalkSpells
import Derived.WideLaws
import Derived.Test.YtkgngggppcmpfaaGreatWFnSievesOfTableaux0
section
namespace Go.Proofs.YtkgngggppcmpfaaGreat.X
open Go.RowKit Go.Proofs.YtkgngggppcmpfaaGreatW.PrintWords Go.Proofs.YtkgngggppcmpfaaGreatW.PrintLast Go.Proofs.YtkgngggppcmpfaaGreatW.PrintMore
set_option linter.unusedVariables false
def Fv (P:Program) (g:Nat) (lb:Array Value) (args:Array Value) (r:Value) (w:World):Prop:=
 ∀ W, Below w.heap.size w W → Calls P g (args ++ lb) W fun e w' => e = .returned r ∧ Below W.heap.size W w'
theorem Fv.calls {P:Program} {g:Nat} {lb args:Array Value} {r:Value} {w W:World} (h:Fv P g lb args r w) (hb:Below w.heap.size w W):
  Calls P g (args ++ lb) W fun e w' => e = .returned r ∧ Below W.heap.size W w' := h W hb
theorem Fv.later {P:Program} {g:Nat} {lb args:Array Value} {r:Value} {w W:World} (h:Fv P g lb args r w) (hb:Below w.heap.size w W):Fv P g lb args r W:=
 fun W' hb' => h W' (hb.trans (hb'.mono hb.size))
theorem Qbp {w W w':World} (h:Below w.heap.size w W) (h':Below W.heap.size W w'):Below w.heap.size w w':=h.trans (h'.mono h.size)
def Qe1 (p:Int→Bool):List Int→Nat→Int
 | [], _ => -1
 | x :: l, i => if p x then (i : Int) else Qe1 p l (i + 1)
def Qhe (p:Int→Bool) (l:List Int):Int:=Qe1 p l 0
theorem Qhj (p:Int→Bool): ∀ (l:List Int) (i:Nat),(0≤Qe1 p l i) ↔ l.any p=true
 | [], i => by simp [Qe1]
 | x :: l, i => by
  unfold Qe1
  by_cases h : p x = true
  ·
   rw [if_pos h]; simp [h]
  ·
   rw [if_neg h, Qhj p l (i + 1)]; simp [h]
def sumFrom (f:Int→Int) (l:List Int) (n:Int):Int:=l.foldl (fun n x=>wrap64 (n+f x)) n
def sumF (f:Int→Int) (l:List Int):Int:=sumFrom f l 0
theorem row_at {e:Nat} {w:World} {A:Option Addr} {n:Nat} {xs:List (List Int)} (h:Kd.C (Kd.slice e (Kd.int .i64)) w A n xs) (i:Nat) (hi:i<n):
  ∃ ad A0 c0, A = some ad ∧ w.cell? (ad.add i) = some (.slice A0 (xs.getD i []).length c0) ∧ (xs.getD i []).length ≤ c0 ∧ (Kd.int .i64).C w A0 (xs.getD i []).length (xs.getD i []) := by
 obtain ⟨ad, c, ea, _, hK, hc0⟩ := Kd.C_get h ([] : List Int) (i : Int) (by omega) (by omega)
 obtain ⟨A0, c0, rfl, l0, g0⟩ := hK
 rw [Int.toNat_natCast] at hc0 l0 g0
 refine ⟨ad, A0, c0, ea, ?_, l0, g0⟩
 have hq := hc0 0 _ rfl
 have e1 : i * (Kd.slice e (Kd.int .i64)).sz + 0 = i := by show i * 1 + 0 = i; omega
 rwa [e1] at hq
def FvL (P:Program) (g:Nat) (lb:Array Value) (x:List Int) (r:Value) (w:World):Prop:=
 ∀ W A c, Below w.heap.size w W → Kd.C (Kd.int .i64) W A x.length x → x.length ≤ c → Calls P g (#[.slice A x.length c] ++ lb) W fun e w' => e = .returned r ∧ Below W.heap.size W w'
theorem FvL.calls {P:Program} {g:Nat} {lb:Array Value} {x:List Int} {r:Value} {w W:World} {A:Option Addr} {c:Nat} (h:FvL P g lb x r w) (hb:Below w.heap.size w W) (hc:Kd.C (Kd.int .i64) W A x.length x) (hl:x.length≤c):
  Calls P g (#[.slice A x.length c] ++ lb) W fun e w' => e = .returned r ∧ Below W.heap.size W w' := h W A c hb hc hl
class Ltr (w W : World) : Prop where out : Below w.heap.size w W
section
variable {α : Type} {d : Kd α} {e base n g : Nat} {ok : Nat → Prop} {w0 w W W1 : World} {v : Value} {xs : List α} {A : Option Addr} {q : Obj}
instance lr0 : Ltr w w := ⟨Below.refl _ _⟩
instance lr1 (o : Obj) [h : Ltr w W] : Ltr w (W.alloc o) := ⟨Qj h.out o⟩
instance lr2 (m : Nat) [h : Ltr w W] : Ltr w (W.drewN m) := ⟨Qk h.out m⟩
instance lr3 [h : Ltr w W] : Ltr w W.drew := ⟨Q2 h.out⟩
theorem uR (h:Z0 (d.R e w base ok v xs)) [l:Ltr w W] :d.R e W base ok v xs:=Kd.R_below h.out l.out
theorem uC (h:Z0 (d.C w A n xs)) [l:Ltr w W] :d.C W A n xs:=Kd.C_below h.out l.out
theorem uD (h:Z0 (d.C w A n xs)) (b:Z0 (Below w.heap.size w W)) [l:Ltr W W1] :d.C W1 A n xs:=Kd.C_below (Kd.C_below h.out b.out) l.out
theorem uB (h:Z0 (Below w0.heap.size w0 w)) [l:Ltr w W] :Below w0.heap.size w0 W:=h.out.trans (l.out.mono h.out.size)
theorem uK (h:Z0 (w.heap[g]? =some q)) [l:Ltr w W] :W.heap[g]? =some q:=(l.out.block g (Qd8 h.out)).trans h.out
theorem uS (h:Z0 (Kd.S d e w base ok v xs)) [l:Ltr w W] :Kd.S d e W base ok v xs:=Kd.S_below h.out l.out
theorem uE {c:Nat} (h:Z0 (d.R e w base ok (.slice A n c) xs)) [l:Ltr w W] :d.C W A xs.length xs:=Kd.C_below (Kd.R_reads' h.out).2.2 l.out
theorem bs {α β:Type} {a:Option α} {f:α→Option β} {r:β} (h:a.bind f=some r): ∃ t,Z0 (a=some t)∧f t=some r:=by
 obtain ⟨t, h1, h2⟩ := Option.bind_eq_some_iff.mp h; exact ⟨t, ⟨h1⟩, h2⟩
end
section
variable {P : Program} {ops : Array Oper} {rest : List Oper} {o : Oper} {a : Act} {Q : Exit → Act → World → Prop} {w : World}
theorem gA {f:FuncId} {fn:Func} {aa:Array Operand} {ts:Array TypeId} (N:Option Tmp) (hf:P.funcs[f]? =some fn) (args:Array Value)
  (h : Calls P f args w fun e w' => ∃ v, e = .returned v ∧ wpList P ops Q rest (a.put N v) w')
  (hd : o.dst = N := by rfl) (hg : o.guard = none := by rfl) (hop : o.op = .call { callee := .value (.func f), args := aa, argTypes := ts } := by with_reducible rfl)
  (hname : (fn.name == "runtime.NumGoroutine") = false := by as_aux_lemma => kernel_rfl) (hb : fn.body.isSome = true := by rfl)
  (hargs : aa.map a.eval = args := by (try simp only [List.map_toArray, List.map_cons, List.map_nil]); first | done | rfl | (simp only [List.length_drop, List.length_take]; rfl)) : wpList P ops Q (o :: rest) a w :=
 Qd3 N hd hg hf hname hb args hop hargs h
theorem bE {N:Tmp} {cs:Array Value} {t:TypeId}
  (h : ∀ g, g = w.heap.size → ∀ w1, w1.heap[g]? = some (.cells cs t (0, 0)) → Below w.heap.size w w1 → wpList P ops Q rest (a.put o.dst (.pointer (some ⟨g, 0, none⟩))) w1)
  (hd : o.dst = some N := by with_reducible rfl) (hg : o.guard = none := by rfl)
  (hr : (execOp a.eval o).run P w = .ok (.value (.pointer (some ⟨w.heap.size, 0, none⟩))) (w.alloc (.cells cs t (0, 0))) := by first | (go_simp; done) | (go_simp; rfl)) : wpList P ops Q (o :: rest) a w :=
 Qfh hg hd hr h
end
section
variable {P : Program} {ops : Array Oper} {Q : Exit → Act → World → Prop} {md : Region.Mode} {S : World → Prop} {ds : List Nat}
variable {v : Value} {fuel : Nat} {l : Array Bool} {a a' : Act} {w w1 : World} {oi : Oper} {T : Bool × List (List Nat × List Nat)} {B : List Nat}
theorem pU (i N:Nat) (h:Qb5 P md ops Q S ds fuel (l.setIfInBounds i true) a' w) (hT:rtab md ops=T:=by exact HT_.out)
  (hi : ops[i]? = some oi := by rfl) (hN : oi.dst = some N := by rfl) (hc : anyT T l.toList (l.setIfInBounds i true).toList i = true := by kernel_rfl)
  (hy : Yields P ops oi v a := by exact Or.inl ⟨by rfl, by (intro w'; go_simp; with_reducible rfl)⟩)
  (hQ : ∀ c a w, Q (.panic c) (a.put oi.dst v) w → Q (.panic c) a w := by exact fun _ _ _ h => h) (ha : a.put (some N) v = a' := by (simp only [Act.put, List.setIfInBounds_toArray, List.set_cons_zero, List.set_cons_succ, Qcm, Qee]; rfl)) : Qb5 P md ops Q S ds (fuel + 1) l a w :=
 pure_ _ hi hN (any_of hT hc) hQ hy ha h
theorem tU (i N:Nat) (hS:S w) (h:Qb5 P md ops Q S ds fuel (l.setIfInBounds i true) a' w) (hT:rtab md ops=T:=by exact HT_.out) (hW:Qen T.2 B=true:=by exact HW_.out)
  (hi : ops[i]? = some oi := by rfl) (hN : oi.dst = some N := by rfl) (hc : Qh2 T B ds l.toList (l.setIfInBounds i true).toList i = true := by kernel_rfl)
  (hy : YieldsIf P ops S oi v a := by exact Or.inl ⟨by rfl, by (intro w' s0; go_simp; with_reducible rfl)⟩)
  (hQ : ∀ c a w, Q (.panic c) (a.put oi.dst v) w → Q (.panic c) a w := by exact fun _ _ _ h => h) (ha : a.put (some N) v = a' := by (simp only [Act.put, List.setIfInBounds_toArray, List.set_cons_zero, List.set_cons_succ, Qcm, Qee]; rfl)) : Qb5 P md ops Q S ds (fuel + 1) l a w :=
 take_ _ hi hN (Qe7 hT hW hc) hQ hy hS ha h
theorem tW (i N:Nat) (hS:S w) (h:Qb5 P md ops Q S ds fuel (l.setIfInBounds i true) a' w) (hT:rtab md ops=T:=by exact HT_.out) (hW:Qen T.2 B=true:=by exact HW_.out)
  (hi : ops[i]? = some oi := by rfl) (hN : oi.dst = some N := by rfl) (hc : Qh2 T B ds l.toList (l.setIfInBounds i true).toList i = true := by kernel_rfl)
  (hy : YieldsIf P ops S oi v a := by exact Or.inl ⟨by rfl, by (rintro w' ⟨s0, s1⟩; go_simp; with_reducible rfl)⟩)
  (hQ : ∀ c a w, Q (.panic c) (a.put oi.dst v) w → Q (.panic c) a w := by exact fun _ _ _ h => h) (ha : a.put (some N) v = a' := by (simp only [Act.put, List.setIfInBounds_toArray, List.set_cons_zero, List.set_cons_succ, Qcm, Qee]; rfl)) : Qb5 P md ops Q S ds (fuel + 1) l a w :=
 take_ _ hi hN (Qe7 hT hW hc) hQ hy hS ha h
theorem tX (i N:Nat) (hS:S w) (h:Qb5 P md ops Q S ds fuel (l.setIfInBounds i true) a' w) (hT:rtab md ops=T:=by exact HT_.out) (hW:Qen T.2 B=true:=by exact HW_.out)
  (hi : ops[i]? = some oi := by rfl) (hN : oi.dst = some N := by rfl) (hc : Qh2 T B ds l.toList (l.setIfInBounds i true).toList i = true := by kernel_rfl)
  (hy : YieldsIf P ops S oi v a := by exact Or.inl ⟨by rfl, by (rintro w' ⟨s0, s1, s2⟩; go_simp; with_reducible rfl)⟩)
  (hQ : ∀ c a w, Q (.panic c) (a.put oi.dst v) w → Q (.panic c) a w := by exact fun _ _ _ h => h) (ha : a.put (some N) v = a' := by (simp only [Act.put, List.setIfInBounds_toArray, List.set_cons_zero, List.set_cons_succ, Qcm, Qee]; rfl)) : Qb5 P md ops Q S ds (fuel + 1) l a w :=
 take_ _ hi hN (Qe7 hT hW hc) hQ hy hS ha h
theorem oU (i:Nat) (N:Option Tmp) (h: ∀ K:Act→World→Prop,Shut (∀ a' w',S w'→(S w'→Qb5 P md ops Q S ds fuel (l.setIfInBounds i true) a' w')→K a' w')→if Region.wanted oi (yielded ops a.tmps)=true then Oper.wp P oi a w K Q else K (a.put N undef) w)
  (hT : rtab md ops = T := by exact HT_.out) (hi : ops[i]? = some oi := by rfl) (hN : oi.dst = N := by rfl)
  (hc : (Qfv T.2 l.toList == [i] && l.toList.set i true == (l.setIfInBounds i true).toList) = true := by kernel_rfl) (hd : i ∉ ds := by decide) : Qb5 P md ops Q S ds (fuel + 1) l a w :=
 one_ _ hi hN (one_of hT hc) hd h
theorem lU (i:Nat) (N:Option Tmp) (h: ∀ K:Act→World→Prop,Shut (∀ a' w',Qb5 P md ops Q S ds fuel (l.setIfInBounds i true) a' w'→K a' w')→if Region.wanted oi (yielded ops a.tmps)=true then Oper.wp P oi a w K Q else K (a.put N undef) w)
  (hT : rtab md ops = T := by exact HT_.out) (hi : ops[i]? = some oi := by rfl) (hN : oi.dst = N := by rfl)
  (hc : (Qfv T.2 l.toList == [i] && l.toList.set i true == (l.setIfInBounds i true).toList) = true := by kernel_rfl) (hd : i ∈ ds := by decide) : Qb5 P md ops Q S ds (fuel + 1) l a w :=
 last_ _ hi hN (one_of hT hc) hd h
theorem nU (N:Nat) (h:Qb5 P md ops Q S ds fuel l a' w) (ha:a.put (some N) v=a':=by (simp only [Act.put,List.setIfInBounds_toArray,List.set_cons_zero,List.set_cons_succ,Qcm,Qee];rfl)):Qb5 P md ops Q S ds fuel l (a.put (some N) v) w:=norm_ ha h
theorem sK {K:Act→World→Prop} (h:K a w1) (hw:Region.wanted oi (yielded ops a.tmps)=true:=by rfl) (hN:oi.dst=none:=by rfl)
  (hrun : (execOp a.eval oi).run P w = .ok .skip w1 := by (go_simp; rfl)) : if Region.wanted oi (yielded ops a.tmps) = true then Oper.wp P oi a w K Q else K (a.put none undef) w := skip_ hw hN hrun h
theorem sU {id n:Nat} (hS:S w.drew) (h:S w.drew→Qb5 P .any ops Q S ds n (Array.replicate n false) a w.drew)
  (hm : P.follows .mixedOrders = true := by kernel_rfl) (hn : ops.size = n := by rfl) : (Code.region id ops true).wp P Q a w := start_ _ hm hn rfl hS h
theorem dU {n:Nat} (h:Q .normal a w) (hT:rtab md ops=T:=by exact HT_.out) (hr:(Qfv T.2 l.toList== [])=true:=by kernel_rfl):Qb5 P md ops Q S ds n l a w:=done_ (done_of hT hr) h
end
section
variable {w W : World} {g n b : Nat} {v : Value} {t : TypeId} {f : Nat × Nat} {A : Nat} {row : Option Nat}
theorem bC (h:Z0 (w.heap[g]? =some (.cells #[v] t (0,0)))):w.cell? ⟨g,0,none⟩=some v:=(Qcs (cs:= #[v]) (t:=t) h.out 0).trans rfl
end
end Go.Proofs.YtkgngggppcmpfaaGreat.X
end
section
namespace Go.Proofs.YtkgngggppcmpfaaGreat.X
open Go.RowKit Go.Proofs.YtkgngggppcmpfaaGreatW.PrintWords Go.Proofs.YtkgngggppcmpfaaGreatW.PrintLast Go.Proofs.YtkgngggppcmpfaaGreatW.PrintMore
set_option linter.unusedVariables false
section
variable {α : Type} {d : Kd α} {e base g : Nat} {ok ok' : Nat → Prop} {w W : World} {v : Value} {xs : List α} {cs : Array Value} {t : TypeId}
theorem vB {w0 w W:World} (k:Z0 (Below w0.heap.size w0 w)) (h:Below w0.heap.size w0 W:=by repeat (first|(with_reducible first|exact HB.out|apply Qj|apply Qk|apply Q2|refine Qbt ?_ (Z0.out (by assumption)))|exact HB.out)):Below w0.heap.size w0 W:=h
theorem vK {w0 w W:World} {row:Option Nat} (k:Z0 (Qg w0 w g row)) (h:Qg w0 W g row:=by repeat (first|(with_reducible first|exact HK.out|apply Qg.set_|apply Qfk|apply Qft|apply Qfj|refine keep_far ?_ (Z0.out (by assumption)) _)|exact HK.out)):Qg w0 W g row:=h
theorem kF {p:Prop} (h:p:=by (repeat (first|(with_reducible first|refine Qcg ?_ _|refine Qc7 ?_|refine Qci ?_ _)|refine Qd5 ?_ (Z0.out (by assumption)) _));exact Z0.out (by assumption)):p:=h
theorem bP {p:Prop} (h:p:=by (with_reducible repeat (first|refine Qcg ?_ _|refine Qc7 ?_|refine Qci ?_ _));refine Qgh (cs:= ?_) ?_ 0 _ ?_;rotate_left;(repeat (first|(with_reducible first|refine Qcg ?_ _|refine Qc7 ?_|refine Qci ?_ _)|refine Qd5 ?_ (Z0.out (by assumption)) _));exact Z0.out (by assumption);rfl):p:=h
theorem rF (h:Z0 (d.R e w base ok v xs)) (b:Z0 (w.heap[g]? =some (.cells cs t (0,0)))) (u:Value) [l:Ltr (w.setCell ⟨g,0,none⟩ u) W] (hd: ∀ q,q ∈ e::d.E→q≠t:=by decide):d.R e W base ok v xs:=
 Kd.R_below (Kd.R_mono (Kd.R_far (p := ⟨g, 0, none⟩) (Kd.R_types h.out b.out hd) (fun _ hk => hk.2) u) (fun _ h_ => h_.1)) l.out
end
theorem gt {P:Program} {ops:Array Oper} {Q:Exit→Act→World→Prop} {o:Oper} {rest:List Oper} {a:Act} {w:World} (h:wpList P ops Q (o::rest) a w):wpList P ops Q (o::rest) a w:=h
end Go.Proofs.YtkgngggppcmpfaaGreat.X
end
section
namespace Go.Proofs.YtkgngggppcmpfaaGreat.L
open Go.RowKit Go.Proofs.YtkgngggppcmpfaaGreatW.PrintWords Go.Proofs.YtkgngggppcmpfaaGreatW.PrintLast Go.Proofs.YtkgngggppcmpfaaGreatW.PrintMore
attribute [local go_sem] Qy Q0 Qbb Qbc Qp Qq Qz Q1
set_option linter.unusedVariables false
set_option linter.unusedSimpArgs false
def errW:Option Int→Value
 |none=> .nilIface
 |some c=> .iface 0 (.int .i64 c)
theorem Qe:errW none= .nilIface:=rfl
theorem Qf (c:Int):errW (some c)= .iface 0 (.int .i64 c):=rfl
theorem Qdq:(Tryz.prog.info? 3).map (fun i=>(i.zero,i.size,i.bytes))=some (some (.int .i64 0),1,8):=by kernel_rfl
theorem Qf3:(Tryz.prog.info? 24).map (fun i=>(i.zero,i.size,i.bytes))=some (some (.slice none 0 0),1,24):=by kernel_rfl
def Qo (xs:List (List Int)) (i:Int):(List Int):=xs.getD i.toNat ([] :List Int)
theorem Qfg {w:World} {A:Option Addr} {n:Nat} {xs:List (List Int)} (h:Kd.C (Kd.slice 3 (Kd.int .i64)) w A n xs) (i:Int) (h0:0≤i) (h1:i<n): ∃ ad A0 c0,A=some ad∧w.cell? (ad.add i.toNat)=some (.slice A0 (Qo xs i).length c0)∧(Qo xs i).length≤c0∧(Kd.int .i64).C w A0 (Qo xs i).length (Qo xs i):=by
 obtain ⟨ad,c,e,_,hK,hc0⟩:=Kd.C_get h ([] :List Int) i h0 h1;have hc: ∀ j u,c[j]? =some u→w.cell? (ad.add (i.toNat*1+j))=some u:=hc0;obtain ⟨A0,c0,rfl,l0,g0⟩:=hK;exact ⟨ad,A0,c0,e,by have hq:=hc 0 _ rfl;rwa [Nat.mul_one,Nat.add_zero] at hq,l0,g0⟩
structure S26 where
 f0:(List Int)
def z26:S26:=⟨([] :List Int)⟩
def k26:Kd S26:=Kd.iso (Kd.slice 3 (Kd.int .i64)) (fun x:S26=>x.f0)
theorem Qhp {w:World} {x:S26} {cs:List Value} (h:k26.K w x cs): ∃ A0 c0,cs= [.slice A0 x.f0.length c0] ∧x.f0.length≤c0∧(Kd.int .i64).C w A0 x.f0.length x.f0:=by
 obtain ⟨A0,c0,rfl,l0,g0⟩:=h;exact ⟨A0,c0,rfl,l0,g0⟩
theorem k26_openM {w:World} {base:Nat} {ok:Nat→Prop} {x:S26} {cs:List Value} (h:k26.M w base ok x cs): ∃ v0,cs= [v0] ∧(Kd.int .i64).R 3 w base ok v0 x.f0:=by
 obtain ⟨v0,rfl,g0⟩:=h;exact ⟨v0,rfl,g0⟩
theorem k26_mk (w:World) (x:S26) {A0:Option Addr} {c0:Nat} (l0:x.f0.length≤c0) (g0:(Kd.int .i64).C w A0 x.f0.length x.f0):k26.K w x [.slice A0 x.f0.length c0] :=⟨A0,c0,rfl,l0,g0⟩
theorem k26_mkM (w:World) (base:Nat) (ok:Nat→Prop) (x:S26) {v0:Value} (g0:(Kd.int .i64).R 3 w base ok v0 x.f0):k26.M w base ok x [v0] :=⟨v0,rfl,g0⟩
theorem k26_openF {W:World} {ok:Nat→Prop} {x:S26} {cs:List Value} (h:Kd.FK k26 W ok x cs): ∃ A0 c0,cs= [.slice A0 x.f0.length c0] ∧x.f0.length≤c0∧Kd.F (Kd.int .i64) W ok A0 x.f0.length x.f0:=by
 obtain ⟨A0,c0,rfl,l0,_⟩:=Qhp (Kd.FK_now h);exact ⟨A0,c0,rfl,l0,(fun W' hW=>by obtain ⟨A0_,c0_,he,l0_,g0_⟩:=Qhp (h W' hW);injection (Option.some.inj (show some (Value.slice A0 x.f0.length c0)=some (Value.slice A0_ x.f0.length c0_) from congrArg (fun l=>l[0]?) he)) with ha_ _ _;rw [ha_];exact g0_)⟩
theorem k26_mkF (W:World) (ok:Nat→Prop) (x:S26) {A0:Option Addr} {c0:Nat} (l0:x.f0.length≤c0) (g0:Kd.F (Kd.int .i64) W ok A0 x.f0.length x.f0):Kd.FK k26 W ok x [.slice A0 x.f0.length c0] :=fun W2 hW=>k26_mk W2 x l0 (g0 W2 hW)
def Qhz (xs:List S26) (i:Int):S26:=xs.getD i.toNat z26
theorem at_T26 {w:World} {A:Option Addr} {n:Nat} {xs:List S26} (h:Kd.C k26 w A n xs) (i:Int) (h0:0≤i) (h1:i<n): ∃ ad A0 c0,A=some ad∧w.cell? (ad.add i.toNat)=some (.slice A0 (Qhz xs i).f0.length c0)∧(Qhz xs i).f0.length≤c0∧(Kd.int .i64).C w A0 (Qhz xs i).f0.length (Qhz xs i).f0:=by
 obtain ⟨ad,c,e,_,hK,hc0⟩:=Kd.C_get h z26 i h0 h1;have hc: ∀ j u,c[j]? =some u→w.cell? (ad.add (i.toNat*1+j))=some u:=hc0;obtain ⟨A0,c0,rfl,l0,g0⟩:=Qhp hK;exact ⟨ad,A0,c0,e,by have hq:=hc 0 _ rfl;rwa [Nat.mul_one,Nat.add_zero] at hq,l0,g0⟩
def rd_L5 (xs:List (List (List Int))) (i:Int):(List (List Int)):=xs.getD i.toNat ([] :List (List Int))
theorem at_L5 {w:World} {A:Option Addr} {n:Nat} {xs:List (List (List Int))} (h:Kd.C (Kd.slice 24 (Kd.slice 3 (Kd.int .i64))) w A n xs) (i:Int) (h0:0≤i) (h1:i<n): ∃ ad A0 c0,A=some ad∧w.cell? (ad.add i.toNat)=some (.slice A0 (rd_L5 xs i).length c0)∧(rd_L5 xs i).length≤c0∧(Kd.slice 3 (Kd.int .i64)).C w A0 (rd_L5 xs i).length (rd_L5 xs i):=by
 obtain ⟨ad,c,e,_,hK,hc0⟩:=Kd.C_get h ([] :List (List Int)) i h0 h1;have hc: ∀ j u,c[j]? =some u→w.cell? (ad.add (i.toNat*1+j))=some u:=hc0;obtain ⟨A0,c0,rfl,l0,g0⟩:=hK;exact ⟨ad,A0,c0,e,by have hq:=hc 0 _ rfl;rwa [Nat.mul_one,Nat.add_zero] at hq,l0,g0⟩
def Qfc.f (l0:List Int) (l1:List Int):Option (Bool):=if (l0.length:Int)>1048576 then (some true) else (some (decide ((l1.length:Int)>(wrap64 (1048576 - (l0.length:Int))))))
set_option maxHeartbeats 8000000 in
set_option maxRecDepth 100000 in
theorem Qfc.calls (A0:Option Addr) (c0:Nat) (l0:List Int) (A1:Option Addr) (c1:Nat) (l1:List Int) (r:Bool) (w:World) (hr0:Kd.C (Kd.int .u8) w A0 l0.length l0) (hc0:l0.length≤c0) (hr1:Kd.C (Kd.int .u8) w A1 l1.length l1) (hc1:l1.length≤c1) (h:Qfc.f l0 l1=some r):
 Calls Tryz.prog 10 #[.slice A0 l0.length c0, .slice A1 l1.length c1] w fun e w'=>e= .returned (.bool r)∧Drawn0 w w':=by
 have HR0:=Zk hr0;have HC0:=Zk hc0;clear hr0 hc0;have HR1:=Zk hr1;have HC1:=Zk hc1;clear hr1 hc1;have H:(if (l0.length:Int)>1048576 then (some true) else (some (decide ((l1.length:Int)>(wrap64 (1048576 - (l0.length:Int)))))))=some r:=h;clear h
 by_cases c3:(l0.length:Int)>1048576
 ·
  rw [if_pos c3] at H;have c3b0:=decide_eq_true c3;have c3b1:decide (1048576<l0.length)=true:=decide_eq_true (by omega);clear c3;obtain rfl:=Option.some.inj H;go_enter Tryz.func10,Tryz.ntmps10;go_wp2
  go_ret
  exact ⟨by first|rfl|(simp;done)|(simp [*];done),by repeat (first|exact Drawn0.refl _|apply Drawn0.step)⟩
 ·
  rw [if_neg c3] at H;have c3b0:=decide_eq_false c3;have c3b1:decide (1048576<l0.length)=false:=decide_eq_false (by omega);clear c3;obtain rfl:=Option.some.inj H;go_enter Tryz.func10,Tryz.ntmps10;go_wp2
  go_ret
  exact ⟨by first|rfl|(simp;done)|(simp [*];done),by repeat (first|exact Drawn0.refl _|apply Drawn0.step)⟩
def Qcp.l0:Nat→List Int→List Int→Int→Int→Option (Bool)
 |0,_,_,_,_=>none
 |k+1,x0,x1,x12,x13=>if x13<x12 then (if 0≤x13 then (if x13<(x0.length:Int) then (if x13<(x1.length:Int) then (if (rd x0 x13)=(rd x1 x13) then (Qcp.l0 k x0 x1 x12 (wrap64 (x13+1))) else (some false)) else (none)) else (none)) else (none)) else (some true)
def Qcp.f (k:Nat) (l0:List Int) (l1:List Int):Option (Bool):=if (l0.length:Int)=(l1.length:Int) then (Qcp.l0 k l0 l1 (l0.length:Int) 0) else (some false)
theorem Qcp.mono_l: ∀ k,(∀ y0 y1 y2 y3,LeO (Qcp.l0 k y0 y1 y2 y3) (Qcp.l0 (k+1) y0 y1 y2 y3))
 |0=>fun _ _ _ _ r h=>by simp [Qcp.l0] at h
 |k+1=>by
  have ih0:=Qcp.mono_l k
  ·
   intro y0 y1 y2 y3;unfold Qcp.l0
   repeat' first
   |(with_reducible exact ih0 _ _ _ _)
   |(with_reducible exact LeO.refl _)
   |(with_reducible exact LeO.none _)
   |(with_reducible refine LeO.ite ?_ ?_)
   |(with_reducible refine LeO.bind ?_ (fun _=> ?_))
   |exact ih0 _ _ _ _
   |exact LeO.none _
   |refine LeO.ite ?_ ?_
   |refine LeO.bind ?_ (fun _=> ?_)
theorem Qcp.mono: ∀ a0 a1 k,LeO (Qcp.f k a0 a1) (Qcp.f (k+1) a0 a1):=by
 intro a0 a1 k;have ih0:=Qcp.mono_l k;unfold Qcp.f
 repeat' (with_reducible first|apply ih0|exact LeO.refl _|exact LeO.none _|refine LeO.ite ?_ ?_|refine LeO.bind ?_ (fun _=> ?_))
set_option maxHeartbeats 8000000 in
set_option maxRecDepth 100000 in
theorem Qcp.calls (k:Nat) (A0:Option Addr) (c0:Nat) (l0:List Int) (A1:Option Addr) (c1:Nat) (l1:List Int) (r:Bool) (w:World) (hr0:Kd.C (Kd.int .i64) w A0 l0.length l0) (hc0:l0.length≤c0) (hr1:Kd.C (Kd.int .i64) w A1 l1.length l1) (hc1:l1.length≤c1) (h:Qcp.f k l0 l1=some r):
 Calls Tryz.prog 64 #[.slice A0 l0.length c0, .slice A1 l1.length c1] w fun e w'=>e= .returned (.bool r)∧Drawn0 w w':=by
 have HR0:=Zk hr0;have HC0:=Zk hc0;clear hr0 hc0;have HR1:=Zk hr1;have HC1:=Zk hc1;clear hr1 hc1;have H:(if (l0.length:Int)=(l1.length:Int) then (Qcp.l0 k l0 l1 (l0.length:Int) 0) else (some false))=some r:=h;clear h
 by_cases c3:(l0.length:Int)=(l1.length:Int)
 ·
  rw [if_pos c3] at H;have c3b0:((l0.length:Int)==(l1.length:Int))=true:=beq_iff_eq.mpr c3;have c3b1:((l0.length:Int) !=(l1.length:Int))=false:=bne_eq_false_iff_eq.mpr c3;have c3b2:(l0.length==l1.length)=true:=by first|simpa using c3|(simp at c3 ⊢;omega)
  clear c3;have H':=Zk H;clear H;go_enter Tryz.func64,Tryz.ntmps64;go_wp2
  repeat (go_quiet (fail);try go_wp2)
  go_loopg [13] k (fun kq v13 w'=> ∃ (x13_1:Int),v13= .int .i64 x13_1∧Z0 (Qcp.l0 kq l0 l1 (l0.length:Int) x13_1=some r)∧Z0 (kq≤k)∧Drawn0 w w')
  case atStart=>exact ⟨(0),(by first|rfl|(simp;done)|(simp [*];done)),H',⟨Nat.le_refl _⟩,by repeat (first|exact Drawn0.refl _|apply Drawn0.step)⟩
  case round=>
   clear H'
   try clear c3b0 c3b1 c3b2
   obtain ⟨x13_1,rfl,HA,HK1,⟨m1,rfl⟩⟩:=hrel;cases gk with
   |zero=>exact absurd HA.out (by simp [Qcp.l0])
   |succ k1=>
    have H:=HA.out;clear HA;simp only [Qcp.l0] at H
    by_cases c4:x13_1<(l0.length:Int)
    ·
     rw [if_pos c4] at H;have c4b0:=decide_eq_true c4;clear c4
     by_cases c5:0≤x13_1
     ·
      rw [if_pos c5] at H;have c5b0:=decide_eq_true c5;clear c5
      by_cases c6:x13_1<(l0.length:Int)
      ·
       rw [if_pos c6] at H;have c6b0:=decide_eq_true c6;clear c6
       by_cases c7:x13_1<(l1.length:Int)
       ·
        rw [if_pos c7] at H;have c7b0:=decide_eq_true c7;clear c7
        by_cases c8:(rd l0 x13_1)=(rd l1 x13_1)
        ·
         rw [if_pos c8] at H;have c8b0:((rd l0 x13_1)==(rd l1 x13_1))=true:=beq_iff_eq.mpr c8;have c8b1:((rd l0 x13_1) !=(rd l1 x13_1))=false:=bne_eq_false_iff_eq.mpr c8;clear c8;have H':=Zk H;clear H;have p101:0≤(x13_1:Int):=of_decide_eq_true (by first|(with_reducible assumption)|assumption);have q101:x13_1<(l0.length:Int):=of_decide_eq_true (by first|(with_reducible assumption)|assumption);obtain ⟨ad101,e101,hx101_0⟩:=Kd.at_int HR0.out x13_1 p101 q101;cases e101;replace p101:=eq_true p101;replace q101:=eq_true q101;have p102:0≤(x13_1:Int):=of_decide_eq_true (by first|(with_reducible assumption)|assumption);have q102:x13_1<(l1.length:Int):=of_decide_eq_true (by first|(with_reducible assumption)|assumption);obtain ⟨ad102,e102,hx102_0⟩:=Kd.at_int HR1.out x13_1 p102 q102;cases e102;replace p102:=eq_true p102;replace q102:=eq_true q102;go_wp2
         repeat (go_quiet (fail);try go_wp2)
         go_roundg k1
         case measure=>have:=HK1.out;omega
         case rel=>exact ⟨(wrap64 (x13_1+1)),(by first|rfl|(simp;done)|(simp [*];done)),H',⟨by have:=HK1.out;omega⟩,by repeat (first|exact Drawn0.refl _|apply Drawn0.step)⟩
        ·
         rw [if_neg c8] at H;have c8b0:((rd l0 x13_1)==(rd l1 x13_1))=false:=beq_eq_false_iff_ne.mpr c8;have c8b1:((rd l0 x13_1) !=(rd l1 x13_1))=true:=bne_iff_ne.mpr c8;obtain rfl:=Option.some.inj H;have p101:0≤(x13_1:Int):=of_decide_eq_true (by first|(with_reducible assumption)|assumption);have q101:x13_1<(l0.length:Int):=of_decide_eq_true (by first|(with_reducible assumption)|assumption);obtain ⟨ad101,e101,hx101_0⟩:=Kd.at_int HR0.out x13_1 p101 q101;cases e101;replace p101:=eq_true p101;replace q101:=eq_true q101;have p102:0≤(x13_1:Int):=of_decide_eq_true (by first|(with_reducible assumption)|assumption);have q102:x13_1<(l1.length:Int):=of_decide_eq_true (by first|(with_reducible assumption)|assumption);obtain ⟨ad102,e102,hx102_0⟩:=Kd.at_int HR1.out x13_1 p102 q102;cases e102;replace p102:=eq_true p102;replace q102:=eq_true q102;go_wp2
         repeat (go_quiet (fail);try go_wp2)
         go_ret
         exact ⟨by first|rfl|(simp;done)|(simp [*];done),by repeat (first|exact Drawn0.refl _|apply Drawn0.step)⟩
       ·
        rw [if_neg c7] at H;exact absurd H (by simp)
      ·
       rw [if_neg c6] at H;exact absurd H (by simp)
     ·
      rw [if_neg c5] at H;exact absurd H (by simp)
    ·
     rw [if_neg c4] at H;have c4b0:=decide_eq_false c4;clear c4;obtain rfl:=Option.some.inj H;go_wp2
     repeat (go_quiet (fail);try go_wp2)
     go_ret
     exact ⟨by first|rfl|(simp;done)|(simp [*];done),by repeat (first|exact Drawn0.refl _|apply Drawn0.step)⟩
 ·
  rw [if_neg c3] at H;have c3b0:((l0.length:Int)==(l1.length:Int))=false:=beq_eq_false_iff_ne.mpr c3;have c3b1:((l0.length:Int) !=(l1.length:Int))=true:=bne_iff_ne.mpr c3;have c3b2:(l0.length==l1.length)=false:=by first|simpa using c3|(simp at c3 ⊢;omega)
  obtain rfl:=Option.some.inj H;go_enter Tryz.func64,Tryz.ntmps64;go_wp2
  repeat (go_quiet (fail);try go_wp2)
  go_ret
  exact ⟨by first|rfl|(simp;done)|(simp [*];done),by repeat (first|exact Drawn0.refl _|apply Drawn0.step)⟩
def Qbv.f (a0:Int) (a1:Int) (a2:Int):Option (Bool):=if a1≤a0 then (some (decide (a0≤a2))) else (some false)
set_option maxHeartbeats 8000000 in
set_option maxRecDepth 100000 in
theorem Qbv.calls (a0:Int) (a1:Int) (a2:Int) (r:Bool) (w:World) (h:Qbv.f a0 a1 a2=some r):
 Calls Tryz.prog 159 #[.int .i64 a0, .int .i64 a1, .int .i64 a2] w fun e w'=>e= .returned (.bool r)∧Drawn0 w w':=by
 have H:(if a1≤a0 then (some (decide (a0≤a2))) else (some false))=some r:=h;clear h
 by_cases c4:a1≤a0
 ·
  rw [if_pos c4] at H;have c4b0:=decide_eq_true c4;clear c4;obtain rfl:=Option.some.inj H;go_enter Tryz.func159,Tryz.ntmps159;go_wp2
  go_ret
  exact ⟨by first|rfl|(simp;done)|(simp [*];done),by repeat (first|exact Drawn0.refl _|apply Drawn0.step)⟩
 ·
  rw [if_neg c4] at H;have c4b0:=decide_eq_false c4;clear c4;obtain rfl:=Option.some.inj H;go_enter Tryz.func159,Tryz.ntmps159;go_wp2
  go_ret
  exact ⟨by first|rfl|(simp;done)|(simp [*];done),by repeat (first|exact Drawn0.refl _|apply Drawn0.step)⟩
open Go.Proofs.YtkgngggppcmpfaaGreat.X in
set_option maxHeartbeats 400000 in
set_option maxRecDepth 100000 in
theorem Qf4.calls (A0:Option Addr) (c0:Nat) (l0:List Int) (g:Nat) (lb:Array Value) (p:Int→Bool) (w:World) (eg: ∀ args w,(callFunc g args).run Tryz.prog w= .ok (.enter g args) w)
 (hr0:Kd.C (Kd.int .i64) w A0 l0.length l0) (hl:l0.length≤9223372036854775806) (hp: ∀ x,x ∈ l0→Fv Tryz.prog g lb #[.int .i64 x] (.bool (p x)) w):
 Calls Tryz.prog 287 #[.slice A0 l0.length c0, .func (.func g) #[] lb] w fun e w'=>e= .returned (.int .i64 (Qhe p l0))∧Below w.heap.size w w':=by
 have HR0:=Zk hr0;have HP:=Zk hp;clear hr0 hp;go_enter Tryz.func287,Tryz.ntmps287;go_wp2
 go_loopw [8] (fun v8 wr=> ∃ k:Nat,k≤l0.length∧v8= .int .i64 k∧Z0 (Qhe p l0=Qe1 p (l0.drop k) k)∧Z0 (Below w.heap.size w wr)) (fun v8 _=>l0.length - (intOf v8).toNat)
 case atStart=>exact ⟨0,Nat.zero_le _,rfl,⟨rfl⟩,⟨Below.refl _ _⟩⟩
 case round=>
  obtain ⟨k,hk,rfl,HI,HB⟩:=hrel
  by_cases hlt:k<l0.length
  ·
   have hdrop:l0.drop k=l0[k] ::l0.drop (k+1):=(List.drop_eq_getElem_cons hlt)
   have hrd:rd l0 (k:Int)=l0[k] :=by simp [rd,List.getD_eq_getElem?_getD,hlt]
   have hmem:l0[k] ∈ l0:=List.getElem_mem hlt;have hfv:=HP.out _ hmem;rw [←hrd] at hfv;have hI3:=Zk (show Qhe p l0=if p (rd l0 (k:Int)) then (k:Int) else Qe1 p (l0.drop (k+1)) (k+1) by rw [hrd,HI.out,hdrop,Qe1]);have HF:=Zk hfv;clear hfv hdrop hrd HI hmem;have p1:0≤((k:Nat):Int):=by omega
   have q1:((k:Nat):Int)<(l0.length:Int):=by omega
   obtain ⟨ad,e1,hx⟩:=Kd.at_int (Kd.C_below HR0.out HB.out) k p1 q1;rw [Int.toNat_natCast] at hx;cases e1
   by_cases hp:p (rd l0 (k:Int))=true
   all_goals
    have hP:=Zk hp;go_wp2_with (go_at_fn g;(with_reducible refine (Fv.calls HF.out HB.out).mono ?_);rintro e w2 ⟨rfl,hb⟩)
    first|go_ret|go_roundw
   ·
    exact ⟨by rw [hI3.out,if_pos hP.out];rfl,Qbp HB.out hb⟩
   case rel=>exact ⟨k+1,by omega,by go_num,⟨by rw [hI3.out,if_neg hP.out]⟩,⟨Qbp HB.out hb⟩⟩
   case measure=>simp [intOf];omega
  ·
   go_wp2
   go_ret
   exact ⟨by rw [HI.out,List.drop_of_length_le (by omega)];rfl,HB.out⟩
open Go.Proofs.YtkgngggppcmpfaaGreat.X in
set_option maxHeartbeats 400000 in
set_option maxRecDepth 100000 in
theorem Qfa.calls (A0:Option Addr) (c0:Nat) (l0:List Int) (g:Nat) (lb:Array Value) (p:Int→Bool) (w:World) (eg: ∀ args w,(callFunc g args).run Tryz.prog w= .ok (.enter g args) w)
 (hr0:Kd.C (Kd.int .i64) w A0 l0.length l0) (hl:l0.length≤9223372036854775806) (hp: ∀ x,x ∈ l0→Fv Tryz.prog g lb #[.int .i64 x] (.bool (p x)) w):
 Calls Tryz.prog 166 #[.slice A0 l0.length c0, .func (.func g) #[] lb] w fun e w'=>e= .returned (.bool (l0.any p))∧Below w.heap.size w w':=by
 have EG:=Zk eg;have HR0:=Zk hr0;have HP:=Zk hp;clear hr0 hp eg;go_enter Tryz.func166,Tryz.ntmps166;go_wp2_with (go_at_call 287;(with_reducible refine (Qf4.calls _ _ l0 g lb p _ EG.out HR0.out hl HP.out).mono ?_);rintro e w2 ⟨rfl,hb⟩)
 go_ret
 refine ⟨?_,hb⟩;have:=Qhj p l0 0;unfold Qhe
 by_cases h:l0.any p=true
 ·
  rw [h] at this ⊢;simp [this.mpr rfl]
 ·
  have h2: ¬ (0≤Qe1 p l0 0):=fun z=>h (this.mp z)
  simp [Bool.eq_false_iff.mpr h,h2]
def Qdc.p (m n:Int):Bool:= !(decide (0≤n) && decide (n≤m))
def Qdc.f (l0:List Int) (a1:Int):Option (Bool):=if l0.length≤9223372036854775806 then some (!(l0.any (Qdc.p a1))) else none
open Go.Proofs.YtkgngggppcmpfaaGreat.X in
set_option maxHeartbeats 400000 in
theorem Qdc.lit (n m:Int) (B:Nat) (w:World) (hB:B<w.heap.size) (hc:w.cell? ⟨B,0,none⟩=some (.int .i64 m)):
 Fv Tryz.prog 302 #[.pointer (some ⟨B,0,none⟩)] #[.int .i64 n] (.bool (Qdc.p m n)) w:=by
 intro W hb;have hc':W.cell? ⟨B,0,none⟩=some (.int .i64 m):=(hb.cell (p:=⟨B,0,none⟩) hB).trans hc;obtain ⟨b,HW,hp⟩: ∃ b,Qbv.f n 0 m=some b∧Qdc.p m n= !b:=⟨decide (0≤n) && decide (n≤m),by unfold Qbv.f;by_cases h:0≤n<;>simp [h],rfl⟩
 rw [hp];have HA:=Zk HW;clear HW hp;go_enter Tryz.func302,Tryz.ntmps302;go_wp2_with (go_at_call 159;(with_reducible refine (Qbv.calls n 0 m b _ HA.out).mono ?_);rintro e w' ⟨rfl,⟨nd,rfl⟩⟩)
 go_ret
 exact ⟨rfl,Qk (Below.refl _ _) _⟩
open Go.Proofs.YtkgngggppcmpfaaGreat.X in
set_option maxHeartbeats 400000 in
theorem Qdc.calls (A0:Option Addr) (c0:Nat) (l0:List Int) (a1:Int) (r:Bool) (w:World) (hr0:Kd.C (Kd.int .i64) w A0 l0.length l0) (hc0:l0.length≤c0) (h:Qdc.f l0 a1=some r):
 Calls Tryz.prog 216 #[.slice A0 l0.length c0, .int .i64 a1] w fun e w'=>e= .returned (.bool r)∧Below w.heap.size w w':=by
 unfold Qdc.f at h
 split at h
 ·
  rename_i hl;obtain rfl:=Option.some.inj h;clear h;have HR0:=Zk hr0;have HL:=Zk hl;clear hr0 hl hc0;have hC:=Zk fun (W:World) (hB:w.heap.size<W.heap.size) (hcw:Kd.C (Kd.int .i64) W A0 l0.length l0) (hc:W.cell? ⟨w.heap.size,0,none⟩=some (.int .i64 a1))=>
   Qfa.calls A0 c0 l0 302 #[.pointer (some ⟨w.heap.size,0,none⟩)] (Qdc.p a1) W (Qet Tryz.func302 (by kernel_rfl) rfl) hcw HL.out (fun x _=>Qdc.lit x a1 _ W hB hc)
  go_enter Tryz.func216,Tryz.ntmps216;go_wp2_with (go_at_call 166;refine (hC.out _ (by simp) (Kd.C_alloc HR0.out _) (by simp)).mono ?_;rintro e w' ⟨rfl,hb⟩)
  go_ret
  exact ⟨rfl,((Below.refl _ w).alloc (Nat.le_refl _) _).trans (hb.mono (by simp))⟩
 ·
  exact absurd h (by simp)
end Go.Proofs.YtkgngggppcmpfaaGreat.L
end
section
namespace Go.Proofs.YtkgngggppcmpfaaGreat.L
open Go.RowKit Go.Proofs.YtkgngggppcmpfaaGreatW.PrintWords Go.Proofs.YtkgngggppcmpfaaGreatW.PrintLast Go.Proofs.YtkgngggppcmpfaaGreatW.PrintMore Go.Proofs.YtkgngggppcmpfaaGreat.X
attribute [local go_sem] Qy Q0 Qbb Qbc Qp Qq Qz Q1
set_option linter.unusedVariables false
set_option linter.unusedSimpArgs false
def Qdp.f (a0:Int):Option (Bool):=(Qbv.f a0 1 60).bind fun t103=>(some t103)
set_option maxHeartbeats 8000000 in
set_option maxRecDepth 100000 in
theorem Qdp.calls (a0:Int) (r:Bool) (w:World) (h:Qdp.f a0=some r):
 Calls Tryz.prog 217 #[.int .i64 a0] w fun e w'=>e= .returned (.bool r)∧Drawn0 w w':=by
 have H:((Qbv.f a0 1 60).bind fun t103=>(some t103))=some r:=h;clear h;obtain ⟨t103,A2,H⟩:=bs H;(try dsimp only at H)
 obtain rfl:=Option.some.inj H;go_enter Tryz.func217,Tryz.ntmps217;go_wp2_with (first|(refine gA (some 4) Tryz.func159 #[.int .i64 a0, .int .i64 1, .int .i64 60] ?_;(with_reducible refine (Qbv.calls a0 1 60 t103 _ A2.out).mono ?_);rintro e w' ⟨rfl,⟨nd,rfl⟩⟩;refine ⟨_,rfl,?_⟩))
 go_ret
 exact ⟨by first|rfl|(simp;done)|(simp [*];done),by repeat (first|exact Drawn0.refl _|apply Drawn0.step)⟩
mutual
def Q7.j0:Nat→List Int→Int→Bool→Option (List Int × Bool)
 |0,_,_,_=>none
 |k+1,x0,x1,x22=>if x22=true then (some (([] :List Int),false)) else (if 0≤x1 then (if (x1:Int).toNat≤35184372088832 then (Q7.l0 k x1 (List.replicate (x1:Int).toNat 0) x0 (x0.length:Int) 0) else (none)) else (none))
def Q7.l0:Nat→Int→List Int→List Int→Int→Int→Option (List Int × Bool)
 |0,_,_,_,_,_=>none
 |k+1,x1,x6,x25,x26,x27=>if x27<x26 then (if 0≤x27 then (if x27<(x25.length:Int) then (if x1=0 then (none) else (if 0≤(Int.tmod x27 x1) then (if (Int.tmod x27 x1)<(x6.length:Int) then (Q7.l0 k x1 (x6.set ((Int.tmod x27 x1):Int).toNat (wrap64 ((rd x6 (Int.tmod x27 x1))+(rd x25 x27)))) x25 x26 (wrap64 (x27+1))) else (none)) else (none))) else (none)) else (none)) else (some (x6,true))
end
def Q7.f (k:Nat) (l0:List Int) (a1:Int):Option (List Int × Bool):=(Qbv.f (l0.length:Int) 1 100).bind fun t104=>(if t104=true then ((Qdc.f l0 1000000).bind fun t105=>(if t105=true then ((Qdp.f a1).bind fun t106=>(Q7.j0 k l0 a1 (!t106))) else (Q7.j0 k l0 a1 true))) else (Q7.j0 k l0 a1 true))
theorem Q7.mono_l: ∀ k,(∀ y0 y1 y2,LeO (Q7.j0 k y0 y1 y2) (Q7.j0 (k+1) y0 y1 y2))∧(∀ y0 y1 y2 y3 y4,LeO (Q7.l0 k y0 y1 y2 y3 y4) (Q7.l0 (k+1) y0 y1 y2 y3 y4))
 |0=>⟨fun _ _ _ r h=>by simp [Q7.j0] at h,fun _ _ _ _ _ r h=>by simp [Q7.l0] at h⟩
 |k+1=>by
  obtain ⟨ih0,ih1⟩:=Q7.mono_l k;refine ⟨?_,?_⟩
  all_goals
   intros
   first|unfold Q7.j0|unfold Q7.l0
   repeat' (with_reducible first|apply ih0|apply ih1|exact LeO.refl _|exact LeO.none _|refine LeO.ite ?_ ?_|refine LeO.bind ?_ (fun _=> ?_))
theorem Q7.mono: ∀ a0 a1 k,LeO (Q7.f k a0 a1) (Q7.f (k+1) a0 a1):=by
 intro a0 a1 k;obtain ⟨ih0,ih1⟩:=Q7.mono_l k;unfold Q7.f
 repeat' (with_reducible first|apply ih0|apply ih1|exact LeO.refl _|exact LeO.none _|refine LeO.ite ?_ ?_|refine LeO.bind ?_ (fun _=> ?_))
set_option maxHeartbeats 8000000 in
set_option maxRecDepth 100000 in
theorem Q7.calls (k:Nat) (A0:Option Addr) (c0:Nat) (l0:List Int) (a1:Int) (r1:List Int) (r2:Bool) (w:World) (hr0:Kd.C (Kd.int .i64) w A0 l0.length l0) (hc0:l0.length≤c0) (h:Q7.f k l0 a1=some (r1,r2)):
 Calls Tryz.prog 68 #[.slice A0 l0.length c0, .int .i64 a1] w fun e w'=> ∃ v0_:Value,e= .returned (.tuple #[v0_, .bool r2])∧Kd.R (Kd.int .i64) 3 w' w.heap.size (fun _=>True) v0_ r1∧Below w.heap.size w w':=by
 have HR0:=Zk hr0;have HC0:=Zk hc0;clear hr0 hc0;have HB:=Zk (Below.refl w.heap.size w);have H:((Qbv.f (l0.length:Int) 1 100).bind fun t104=>(if t104=true then ((Qdc.f l0 1000000).bind fun t105=>(if t105=true then ((Qdp.f a1).bind fun t106=>(Q7.j0 k l0 a1 (!t106))) else (Q7.j0 k l0 a1 true))) else (Q7.j0 k l0 a1 true)))=some (r1,r2):=h;clear h;have HC3:=Zk H;clear H;go_enter Tryz.func68,Tryz.ntmps68;go_upto_region 1 with (fail)
 go_cut [22] (fun v22 wc=> ∃ (kq:Nat) (x22_2:Bool),v22= .bool x22_2∧Z0 (Q7.j0 kq l0 a1 x22_2=some (r1,r2))∧Z0 (kq≤k)∧Z0 (Below w.heap.size w wc))
 case first=>
  have H:=HC3.out;clear HC3;obtain ⟨t104,A4,H⟩:=bs H;(try dsimp only at H)
  by_cases c5:t104=true
  ·
   subst c5;rw [if_pos rfl] at H;obtain ⟨t105,A6,H⟩:=bs H;(try dsimp only at H)
   by_cases c7:t105=true
   ·
    subst c7;rw [if_pos rfl] at H;obtain ⟨t106,A8,H⟩:=bs H;(try dsimp only at H)
    have H':=Zk H;clear H;go_wp2_with (first|(refine gA (some 11) Tryz.func159 #[.int .i64 (l0.length:Int), .int .i64 1, .int .i64 100] ?_;(with_reducible refine (Qbv.calls (l0.length:Int) 1 100 true _ A4.out).mono ?_);rintro e w' ⟨rfl,⟨nd,rfl⟩⟩;refine ⟨_,rfl,?_⟩)|(go_at_call 216;(with_reducible refine (Qdc.calls _ _ l0 1000000 true _ ?side1 HC0.out A6.out).mono ?_);(case side1=>repeat (first|exact (Kd.C_below HR0.out (uB HB))|(with_reducible refine Kd.C_alloc ?_ _)|(with_reducible refine Kd.C_drewN ?_ _)|(with_reducible refine Kd.C_drew ?_)));rintro e w9 ⟨rfl,hb⟩;replace HB:=Zk (Qb (uB HB) hb);(try clear hb))|(go_at_call 217;(with_reducible refine (Qdp.calls a1 t106 _ A8.out).mono ?_);rintro e w' ⟨rfl,⟨nd,rfl⟩⟩))
    go_meet
    case rel=>exact ⟨_,(!t106),(by first|rfl|(simp;done)|(simp [*];done)),H',⟨by first|omega|exact Nat.le_refl _⟩,⟨uB HB⟩⟩
   ·
    replace c7:=Bool.eq_false_iff.mpr c7;subst c7;rw [if_neg (show ¬ (false=true) by decide)] at H;have H':=Zk H;clear H;go_wp2_with (first|(refine gA (some 11) Tryz.func159 #[.int .i64 (l0.length:Int), .int .i64 1, .int .i64 100] ?_;(with_reducible refine (Qbv.calls (l0.length:Int) 1 100 true _ A4.out).mono ?_);rintro e w' ⟨rfl,⟨nd,rfl⟩⟩;refine ⟨_,rfl,?_⟩)|(go_at_call 216;(with_reducible refine (Qdc.calls _ _ l0 1000000 false _ ?side1 HC0.out A6.out).mono ?_);(case side1=>repeat (first|exact (Kd.C_below HR0.out (uB HB))|(with_reducible refine Kd.C_alloc ?_ _)|(with_reducible refine Kd.C_drewN ?_ _)|(with_reducible refine Kd.C_drew ?_)));rintro e w10 ⟨rfl,hb⟩;replace HB:=Zk (Qb (uB HB) hb);(try clear hb)))
    go_meet
    case rel=>exact ⟨_,(true),(by first|rfl|(simp;done)|(simp [*];done)),H',⟨by first|omega|exact Nat.le_refl _⟩,⟨uB HB⟩⟩
  ·
   replace c5:=Bool.eq_false_iff.mpr c5;subst c5;rw [if_neg (show ¬ (false=true) by decide)] at H;have H':=Zk H;clear H;go_wp2_with (first|(refine gA (some 11) Tryz.func159 #[.int .i64 (l0.length:Int), .int .i64 1, .int .i64 100] ?_;(with_reducible refine (Qbv.calls (l0.length:Int) 1 100 false _ A4.out).mono ?_);rintro e w' ⟨rfl,⟨nd,rfl⟩⟩;refine ⟨_,rfl,?_⟩))
   go_meet
   case rel=>exact ⟨_,(true),(by first|rfl|(simp;done)|(simp [*];done)),H',⟨by first|omega|exact Nat.le_refl _⟩,⟨uB HB⟩⟩
 case rest=>
  clear HC3
  skip
  obtain ⟨kq,x22_2,rfl,HA,HJ2,HB⟩:=hcut;cases kq with
  |zero=>exact absurd HA.out (by simp [Q7.j0])
  |succ kj2=>
   have H:=HA.out;clear HA;simp only [Q7.j0] at H
   by_cases c11:x22_2=true
   ·
    subst c11;rw [if_pos rfl] at H;simp only [Option.some.injEq,Prod.mk.injEq] at H;obtain ⟨rfl,rfl⟩:=H;go_wp2
    go_ret2
    exact ⟨_,by first|rfl|(simp [Qe,Qf] <;>rfl)|(simp [*,Qe,Qf] <;>rfl),by first|exact Kd.R_nil _ _ _ _ _|exact Kd.N_nil _ _ _ _ _|exact Kd.V_nil _ _ _ _ _|exact Kd.Q_nil _ _ _ _ _|exact Kd.S_nil _ _ _ _ _,uB HB⟩
   ·
    replace c11:=Bool.eq_false_iff.mpr c11;subst c11;rw [if_neg (show ¬ (false=true) by decide)] at H
    by_cases c12:0≤a1
    ·
     rw [if_pos c12] at H;have c12b0:=eq_true c12;have c12b1:=decide_eq_true c12;clear c12
     by_cases c13:(a1:Int).toNat≤35184372088832
     ·
      rw [if_pos c13] at H;have c13b0:=eq_true c13;have c13b1:=decide_eq_true c13;clear c13;obtain ⟨y107,hy107⟩: ∃ y_:List Int,y_=(List.replicate (a1:Int).toNat 0):=⟨_,rfl⟩
      replace H:(Q7.l0 kj2 a1 y107 l0 (l0.length:Int) 0)=some (r1,r2):=by first|(rw [hy107];with_reducible exact H)|(have H2_:=(Option.bind_some _ _).symm.trans H;rw [hy107];with_reducible exact H2_)|(have H2_:=(Option.bind_some _ _).symm.trans H;with_reducible exact H2_)|with_reducible exact H|(rw [hy107];exact H)|exact H
      have Ny107:=Zk hy107;clear hy107;have H':=Zk H;clear H;go_wp2_with (first|((with_reducible refine Qu (N:=24) rfl ?_);refine Kd.R_make (Kd.int .i64) _ 3 rfl (N:=24) rfl 24 _ _ rfl a1 rfl rfl Tryz.underlying24 (.int .i64 0) 8 Qdq rfl (by decide) (by omega) 0 (ok:=fun _=>True) (okp:=fun _=>True) rfl (fun _ hk=>hk) trivial (of_decide_eq_true (by first|(with_reducible assumption)|assumption)) (Nat.le_trans (Nat.mul_le_mul_right _ (of_decide_eq_true (by first|(with_reducible assumption)|assumption):a1.toNat≤35184372088832)) (by omega)) (Below.refl _ _) (Nat.le_refl _) ?_;intro v108 w14 ho15 hb hg_ hnew_;clear hg_ hnew_;(first|rw [←Ny107.out] at ho15|(simp only [Int.reduceToNat] at ho15;rw [←Ny107.out] at ho15));have HO109:=Zk (Kd.R_lower ho15 (Qh (uB HB)));replace HB:=Zk (Qb (uB HB) hb);clear hb ho15))
      go_loopg [27] kj2 (fun kq v27 w'=> ∃ (x6_2:List Int) (x27_2:Int),v27= .int .i64 x27_2∧Z0 (Q7.l0 kq a1 x6_2 l0 (l0.length:Int) x27_2=some (r1,r2))∧Z0 (kq≤kj2)∧Z0 (Kd.R (Kd.int .i64) 3 w' w.heap.size (fun _=>True) v108 x6_2)∧Z0 (Below w.heap.size w w'))
      case atStart=>exact ⟨(y107),(0),(by first|rfl|(simp;done)|(simp [*];done)),H',⟨Nat.le_refl _⟩,⟨uR HO109⟩,⟨uB HB⟩⟩
      case round=>
       clear H'
       try clear c12b0 c12b1 c13b0 c13b1
       obtain ⟨x6_2,x27_2,rfl,HA,HK2,HO_6,HB⟩:=hrel;cases gk with
       |zero=>exact absurd HA.out (by simp [Q7.l0])
       |succ k2=>
        have H:=HA.out;clear HA;simp only [Q7.l0] at H
        by_cases c16:x27_2<(l0.length:Int)
        ·
         rw [if_pos c16] at H;have c16b0:=decide_eq_true c16;clear c16
         by_cases c17:0≤x27_2
         ·
          rw [if_pos c17] at H;have c17b0:=decide_eq_true c17;clear c17
          by_cases c18:x27_2<(l0.length:Int)
          ·
           rw [if_pos c18] at H;have c18b0:=decide_eq_true c18;clear c18
           by_cases c19:a1=0
           ·
            rw [if_pos c19] at H;exact absurd H (by simp)
           ·
            rw [if_neg c19] at H;have c19b0:(a1==0)=false:=beq_eq_false_iff_ne.mpr c19;have c19b1:(a1 !=0)=true:=bne_iff_ne.mpr c19;obtain ⟨ji20,hji20⟩: ∃ j_:Int,(Int.tmod x27_2 a1)=j_:=⟨_,rfl⟩
            replace H:(if 0≤(ji20) then (if (ji20)<(x6_2.length:Int) then (Q7.l0 k2 a1 (x6_2.set ((ji20):Int).toNat (wrap64 ((rd x6_2 (ji20))+(rd l0 x27_2)))) l0 (l0.length:Int) (wrap64 (x27_2+1))) else (none)) else (none))=some (r1,r2):=by first|(rw [hji20] at H;exact H)|(simp only [hji20] at H ⊢;exact H)
            by_cases c21:0≤(ji20)
            ·
             rw [if_pos c21] at H;have c21b0:=decide_eq_true c21;clear c21
             by_cases c22:(ji20)<(x6_2.length:Int)
             ·
              rw [if_pos c22] at H;have c22b0:=decide_eq_true c22;clear c22;obtain ⟨y112,hy112⟩: ∃ y_:List Int,y_=(x6_2.set ((ji20):Int).toNat (wrap64 ((rd x6_2 (ji20))+(rd l0 x27_2)))):=⟨_,rfl⟩
              replace H:(Q7.l0 k2 a1 y112 l0 (l0.length:Int) (wrap64 (x27_2+1)))=some (r1,r2):=by first|(rw [hy112];with_reducible exact H)|(have H2_:=(Option.bind_some _ _).symm.trans H;rw [hy112];with_reducible exact H2_)|(have H2_:=(Option.bind_some _ _).symm.trans H;with_reducible exact H2_)|with_reducible exact H|(rw [hy112];exact H)|exact H
              have Ny112:=Zk hy112;clear hy112;have H':=Zk H;clear H;have p110:0≤(x27_2:Int):=of_decide_eq_true (by first|(with_reducible assumption)|assumption);have q110:x27_2<(l0.length:Int):=of_decide_eq_true (by first|(with_reducible assumption)|assumption);obtain ⟨ad110,e110,hx110_0⟩:=Kd.at_int HR0.out x27_2 p110 q110;cases e110;replace hx110_0:=(HB.out.cell (World.block_lt_of_cell? w _ hx110_0)).trans hx110_0;replace p110:=eq_true p110;replace q110:=eq_true q110;obtain ⟨Ao24,co24,eo24⟩:=Kd.R_slice HO_6.out;subst eo24;have p111:0≤((ji20):Int):=of_decide_eq_true (by first|(with_reducible assumption)|assumption);have q111:(ji20)<(x6_2.length:Int):=of_decide_eq_true (by first|(with_reducible assumption)|assumption);obtain ⟨ad111,e111,hx111_0⟩:=Kd.at_int (Kd.R_reads' HO_6.out).2.2 (ji20) p111 q111;cases e111;replace p111:=eq_true p111;replace q111:=eq_true q111;have p23:0≤((ji20):Int):=of_decide_eq_true (by first|(with_reducible assumption)|assumption);have q23:((ji20):Int)<((x6_2.length:Int):Int):=of_decide_eq_true (by first|(with_reducible assumption)|assumption);obtain ⟨go23,co23,eo23,gb23,gl23,cl23,HG23⟩:=Kd.R_form HO_6.out (by omega)
              (first|cases eo23|(injection eo23 with ea_ en_ ec_;(first|subst ea_|(injection ea_ with ea_;subst ea_));subst ec_;clear en_))
              have GB23:=Zk gb23;have GG23:=Zk HG23;clear gb23 gl23 HG23
              (first|simp only [Qd2] at hx111_0|skip)
              obtain ⟨hx23_0,hf23_0⟩:=Kd.R_celln 0 HO_6.out ((ji20):Int) p23 q23;replace p23:=eq_true p23;replace q23:=eq_true q23;have HP25:=Kd.R_putg HO_6.out ((ji20):Int) (wrap64 ((rd x6_2 (ji20))+(rd l0 x27_2)));go_wp2_with (first|((with_reducible refine Qer (t:=3) (p:=40) rfl ?_);refine Qel (t:=3) (p:=40) (v:= ?vo_w26) (w1:=(wr.setCell ⟨go23,((ji20):Int).toNat,none⟩ (.int .i64 (wrap64 ((rd x6_2 (ji20))+(rd l0 x27_2)))))) ?hg ?ho ?hn ?hr ?_;(case ho=>rfl);(case hg=>rfl);(case hn=>rfl);(case hr=>first|(go_simp;done)|(go_simp;rfl));intro w26 hw;have hg:wr.grownBy w26 (some go23):=(by rw [hw];exact HP25.2);have hp_:Kd.R (Kd.int .i64) 3 w26 w.heap.size (fun _=>True) (.slice (some ⟨go23,0,none⟩) x6_2.length co24) y112:=(by rw [hw,Ny112.out];exact HP25.1);clear HP25;replace HO_6:=Zk (hp_);replace HB:=Zk ((by rw [hw];exact Qbt (HB.out) GB23.out:Below w.heap.size w w26));clear hg hw hp_));go_roundg k2
              case measure=>have:=HJ2.out;have:=HK2.out;omega
              case rel=>exact ⟨(y112),(wrap64 (x27_2+1)),(by first|rfl|(simp;done)|(simp [*];done)),H',⟨by have:=HJ2.out;have:=HK2.out;omega⟩,⟨uR HO_6⟩,⟨uB HB⟩⟩
             ·
              rw [if_neg c22] at H;exact absurd H (by simp)
            ·
             rw [if_neg c21] at H;exact absurd H (by simp)
          ·
           rw [if_neg c18] at H;exact absurd H (by simp)
         ·
          rw [if_neg c17] at H;exact absurd H (by simp)
        ·
         rw [if_neg c16] at H;have c16b0:=decide_eq_false c16;clear c16;simp only [Option.some.injEq,Prod.mk.injEq] at H;obtain ⟨rfl,rfl⟩:=H;go_wp2
         go_ret2
         exact ⟨_,by first|rfl|(simp [Qe,Qf] <;>rfl)|(simp [*,Qe,Qf] <;>rfl),uR HO_6,uB HB⟩
     ·
      rw [if_neg c13] at H;exact absurd H (by simp)
    ·
     rw [if_neg c12] at H;exact absurd H (by simp)
def Qde.f (l0:List Int):Option (Bool):=(Qdp.f (l0.length:Int)).bind fun t113=>(if t113=true then ((Qdc.f l0 100000000).bind fun t114=>(some t114)) else (some false))
set_option maxHeartbeats 8000000 in
set_option maxRecDepth 100000 in
theorem Qde.calls (A0:Option Addr) (c0:Nat) (l0:List Int) (r:Bool) (w:World) (hr0:Kd.C (Kd.int .i64) w A0 l0.length l0) (hc0:l0.length≤c0) (h:Qde.f l0=some r):
 Calls Tryz.prog 218 #[.slice A0 l0.length c0] w fun e w'=>e= .returned (.bool r)∧Below w.heap.size w w':=by
 have HR0:=Zk hr0;have HC0:=Zk hc0;clear hr0 hc0;have HB:=Zk (Below.refl w.heap.size w);have H:((Qdp.f (l0.length:Int)).bind fun t113=>(if t113=true then ((Qdc.f l0 100000000).bind fun t114=>(some t114)) else (some false)))=some r:=h;clear h;obtain ⟨t113,A2,H⟩:=bs H;(try dsimp only at H)
 by_cases c3:t113=true
 ·
  subst c3;rw [if_pos rfl] at H;obtain ⟨t114,A4,H⟩:=bs H;(try dsimp only at H)
  obtain rfl:=Option.some.inj H;go_enter Tryz.func218,Tryz.ntmps218;go_wp2_with (first|(refine gA (some 5) Tryz.func217 #[.int .i64 (l0.length:Int)] ?_;(with_reducible refine (Qdp.calls (l0.length:Int) true _ A2.out).mono ?_);rintro e w' ⟨rfl,⟨nd,rfl⟩⟩;refine ⟨_,rfl,?_⟩)|(go_at_call 216;(with_reducible refine (Qdc.calls _ _ l0 100000000 t114 _ (uC HR0) HC0.out A4.out).mono ?_);rintro e w5 ⟨rfl,hb⟩;replace HB:=Zk (Qb (uB HB) hb);(try clear hb)))
  go_ret
  exact ⟨by first|rfl|(simp [Qe,Qf] <;>rfl)|(simp [*,Qe,Qf] <;>rfl),uB HB⟩
 ·
  replace c3:=Bool.eq_false_iff.mpr c3;subst c3;rw [if_neg (show ¬ (false=true) by decide)] at H;obtain rfl:=Option.some.inj H;go_enter Tryz.func218,Tryz.ntmps218;go_wp2_with (first|(refine gA (some 5) Tryz.func217 #[.int .i64 (l0.length:Int)] ?_;(with_reducible refine (Qdp.calls (l0.length:Int) false _ A2.out).mono ?_);rintro e w' ⟨rfl,⟨nd,rfl⟩⟩;refine ⟨_,rfl,?_⟩))
  go_ret
  exact ⟨by first|rfl|(simp [Qe,Qf] <;>rfl)|(simp [*,Qe,Qf] <;>rfl),uB HB⟩
end Go.Proofs.YtkgngggppcmpfaaGreat.L
end
section
namespace Go.Proofs.YtkgngggppcmpfaaGreat.L
open Go.RowKit Go.Proofs.YtkgngggppcmpfaaGreatW.PrintWords Go.Proofs.YtkgngggppcmpfaaGreatW.PrintLast Go.Proofs.YtkgngggppcmpfaaGreatW.PrintMore
attribute [local go_sem] Qy Q0 Qbb Qbc Qp Qq Qz Q1
set_option linter.unusedVariables false
set_option linter.unusedSimpArgs false
def Qdf.l0:Nat→Int→Int→Option (Int)
 |0,_,_=>none
 |k+1,x0,x1=>if x1=0 then (some x0) else (Qdf.l0 k x1 (Int.tmod x0 x1))
def Qdf.f (k:Nat) (a0:Int) (a1:Int):Option (Int):=Qdf.l0 k a0 a1
theorem Qdf.mono_l: ∀ k,(∀ y0 y1,LeO (Qdf.l0 k y0 y1) (Qdf.l0 (k+1) y0 y1))
 |0=>fun _ _ r h=>by simp [Qdf.l0] at h
 |k+1=>by
  have ih0:=Qdf.mono_l k
  ·
   intro y0 y1;unfold Qdf.l0
   repeat' first
   |(with_reducible exact ih0 _ _)
   |(with_reducible exact LeO.refl _)
   |(with_reducible exact LeO.none _)
   |(with_reducible refine LeO.ite ?_ ?_)
   |(with_reducible refine LeO.bind ?_ (fun _=> ?_))
   |exact ih0 _ _
   |exact LeO.none _
   |refine LeO.ite ?_ ?_
   |refine LeO.bind ?_ (fun _=> ?_)
theorem Qdf.mono: ∀ a0 a1 k,LeO (Qdf.f k a0 a1) (Qdf.f (k+1) a0 a1):=by
 intro a0 a1 k;have ih0:=Qdf.mono_l k;unfold Qdf.f
 repeat' (with_reducible first|apply ih0|exact LeO.refl _|exact LeO.none _|refine LeO.ite ?_ ?_|refine LeO.bind ?_ (fun _=> ?_))
set_option maxHeartbeats 8000000 in
set_option maxRecDepth 100000 in
theorem Qdf.calls (k:Nat) (a0:Int) (a1:Int) (r:Int) (w:World) (h:Qdf.f k a0 a1=some r):
 Calls Tryz.prog 219 #[.int .i64 a0, .int .i64 a1] w fun e w'=>e= .returned (.int .i64 r)∧Drawn0 w w':=by
 have H:(Qdf.l0 k a0 a1)=some r:=h;clear h;have H':=Zk H;clear H;go_enter Tryz.func219,Tryz.ntmps219;go_wp2
 repeat (go_quiet (fail);try go_wp2)
 go_loopg [0,1] k (fun kq v0 v1 w'=> ∃ (x0_1:Int) (x1_1:Int),v0= .int .i64 x0_1∧v1= .int .i64 x1_1∧Z0 (Qdf.l0 kq x0_1 x1_1=some r)∧Z0 (kq≤k)∧Drawn0 w w')
 case atStart=>exact ⟨(a0),(a1),(by first|rfl|(simp;done)|(simp [*];done)),(by first|rfl|(simp;done)|(simp [*];done)),H',⟨Nat.le_refl _⟩,by repeat (first|exact Drawn0.refl _|apply Drawn0.step)⟩
 case round=>
  clear H'
  skip
  obtain ⟨x0_1,x1_1,rfl,rfl,HA,HK1,⟨m1,rfl⟩⟩:=hrel;cases gk with
  |zero=>exact absurd HA.out (by simp [Qdf.l0])
  |succ k1=>
   have H:=HA.out;clear HA;simp only [Qdf.l0] at H
   by_cases c3:x1_1=0
   ·
    rw [if_pos c3] at H;have c3b0:(x1_1==0)=true:=beq_iff_eq.mpr c3;have c3b1:(x1_1 !=0)=false:=bne_eq_false_iff_eq.mpr c3;clear c3;obtain rfl:=Option.some.inj H;go_wp2
    repeat (go_quiet (fail);try go_wp2)
    go_ret
    exact ⟨by first|rfl|(simp;done)|(simp [*];done),by repeat (first|exact Drawn0.refl _|apply Drawn0.step)⟩
   ·
    rw [if_neg c3] at H;have c3b0:(x1_1==0)=false:=beq_eq_false_iff_ne.mpr c3;have c3b1:(x1_1 !=0)=true:=bne_iff_ne.mpr c3;have H':=Zk H;clear H;go_wp2
    repeat (go_quiet (fail);try go_wp2)
    go_roundg k1
    case measure=>have:=HK1.out;omega
    case rel=>exact ⟨(x1_1),(Int.tmod x0_1 x1_1),(by first|rfl|(simp;done)|(simp [*];done)),(by first|rfl|(simp;done)|(simp [*];done)),H',⟨by have:=HK1.out;omega⟩,by repeat (first|exact Drawn0.refl _|apply Drawn0.step)⟩
open Go.Proofs.YtkgngggppcmpfaaGreat.X in
set_option maxHeartbeats 800000 in
set_option maxRecDepth 100000 in
theorem Qgo.calls (A0:Option Addr) (c0:Nat) (l0:List Int) (g:Nat) (lb:Array Value) (f:Int→Int) (w:World) (eg: ∀ args w,(callFunc g args).run Tryz.prog w= .ok (.enter g args) w)
 (hr0:Kd.C (Kd.int .i64) w A0 l0.length l0) (hl:l0.length≤9223372036854775806) (hp: ∀ x,x ∈ l0→Fv Tryz.prog g lb #[.int .i64 x] (.int .i64 (f x)) w):
 Calls Tryz.prog 220 #[.slice A0 l0.length c0, .func (.func g) #[] lb] w fun e w'=>e= .returned (.int .i64 (sumF f l0))∧Below w.heap.size w w':=by
 have HR0:=Zk hr0;have HP:=Zk hp;clear hr0 hp;go_enter Tryz.func220,Tryz.ntmps220;go_wp2
 go_loopw [5,10] (fun v5 v10 wr=> ∃ (k:Nat) (n:Int),k≤l0.length∧v10= .int .i64 k∧v5= .int .i64 n∧Z0 (sumF f l0=sumFrom f (l0.drop k) n)∧Z0 (Below w.heap.size w wr)) (fun v5 v10 _=>l0.length - (intOf v10).toNat)
 case atStart=>exact ⟨0,0,Nat.zero_le _,rfl,rfl,⟨rfl⟩,⟨Below.refl _ _⟩⟩
 case round=>
  obtain ⟨k,n,hk,rfl,rfl,HI,HB⟩:=hrel
  by_cases hlt:k<l0.length
  ·
   have hdrop:l0.drop k=l0[k] ::l0.drop (k+1):=(List.drop_eq_getElem_cons hlt)
   have hrd:rd l0 (k:Int)=l0[k] :=by simp [rd,List.getD_eq_getElem?_getD,hlt]
   have hmem:l0[k] ∈ l0:=List.getElem_mem hlt;have hfv:=HP.out _ hmem;rw [←hrd] at hfv;have hI3:=Zk (show sumF f l0=sumFrom f (l0.drop (k+1)) (wrap64 (n+f (rd l0 (k:Int)))) by rw [hrd,HI.out,hdrop];rfl);have HF:=Zk hfv;clear hfv hdrop hrd HI hmem;have p1:0≤((k:Nat):Int):=by omega
   have q1:((k:Nat):Int)<(l0.length:Int):=by omega
   obtain ⟨ad,e1,hx⟩:=Kd.at_int (Kd.C_below HR0.out HB.out) k p1 q1;rw [Int.toNat_natCast] at hx;cases e1;go_wp2_with (go_at_fn g;(with_reducible refine (Fv.calls HF.out HB.out).mono ?_);rintro e w2 ⟨rfl,hb⟩);go_roundw
   case rel=>exact ⟨k+1,wrap64 (n+f (rd l0 (k:Int))),by omega,by go_num,by go_num,⟨hI3.out⟩,⟨Qbp HB.out hb⟩⟩
   case measure=>simp [intOf];omega
  ·
   go_wp2
   go_ret
   exact ⟨by rw [HI.out,List.drop_of_length_le (by omega)];rfl,HB.out⟩
end Go.Proofs.YtkgngggppcmpfaaGreat.L
end
section
namespace Go.Proofs.YtkgngggppcmpfaaGreat.L
open Go.RowKit Go.Proofs.YtkgngggppcmpfaaGreatW.PrintWords Go.Proofs.YtkgngggppcmpfaaGreatW.PrintLast Go.Proofs.YtkgngggppcmpfaaGreatW.PrintMore Go.Proofs.YtkgngggppcmpfaaGreat.X
attribute [local go_sem] Qy Q0 Qbb Qbc Qp Qq Qz Q1
set_option linter.unusedVariables false
set_option linter.unusedSimpArgs false
def Qbn.l0:Nat→Int→List Int→Int→Option (List Int)
 |0,_,_,_=>none
 |k+1,x0,x3,x4=>if x4≤x0 then (if x4=0 then (none) else (if (Int.tmod x0 x4)=0 then (if x3.length<17592186044416 then (Qbn.l0 k x0 (x3++ [x4]) (wrap64 (x4+1))) else (none)) else (Qbn.l0 k x0 x3 (wrap64 (x4+1))))) else (some x3)
def Qbn.f (k:Nat) (a0:Int):Option (List Int):=Qbn.l0 k a0 (([] :List Int)) 1
theorem Qbn.mono_l: ∀ k,(∀ y0 y1 y2,LeO (Qbn.l0 k y0 y1 y2) (Qbn.l0 (k+1) y0 y1 y2))
 |0=>fun _ _ _ r h=>by simp [Qbn.l0] at h
 |k+1=>by
  have ih0:=Qbn.mono_l k
  ·
   intro y0 y1 y2;unfold Qbn.l0
   repeat' first
   |(with_reducible exact ih0 _ _ _)
   |(with_reducible exact LeO.refl _)
   |(with_reducible exact LeO.none _)
   |(with_reducible refine LeO.ite ?_ ?_)
   |(with_reducible refine LeO.bind ?_ (fun _=> ?_))
   |exact ih0 _ _ _
   |exact LeO.none _
   |refine LeO.ite ?_ ?_
   |refine LeO.bind ?_ (fun _=> ?_)
theorem Qbn.mono: ∀ a0 k,LeO (Qbn.f k a0) (Qbn.f (k+1) a0):=by
 intro a0 k;have ih0:=Qbn.mono_l k;unfold Qbn.f
 repeat' (with_reducible first|apply ih0|exact LeO.refl _|exact LeO.none _|refine LeO.ite ?_ ?_|refine LeO.bind ?_ (fun _=> ?_))
set_option maxHeartbeats 8000000 in
set_option maxRecDepth 100000 in
theorem Qbn.calls (k:Nat) (a0:Int) (r:List Int) (w:World) (h:Qbn.f k a0=some r):
 Calls Tryz.prog 221 #[.int .i64 a0] w fun e w'=> ∃ v0_:Value,e= .returned (v0_)∧Kd.R (Kd.int .i64) 3 w' w.heap.size (fun _=>True) v0_ r∧Below w.heap.size w w':=by
 have HB:=Zk (Below.refl w.heap.size w);have H:(Qbn.l0 k a0 (([] :List Int)) 1)=some r:=h;clear h;obtain ⟨y115,hy115⟩: ∃ y_:List Int,y_=(([] :List Int)):=⟨_,rfl⟩
 replace H:(Qbn.l0 k a0 y115 1)=some r:=by first|(rw [hy115];with_reducible exact H)|(have H2_:=(Option.bind_some _ _).symm.trans H;rw [hy115];with_reducible exact H2_)|(have H2_:=(Option.bind_some _ _).symm.trans H;with_reducible exact H2_)|with_reducible exact H|(rw [hy115];exact H)|exact H
 have Ny115:=Zk hy115;clear hy115;have H':=Zk H;clear H;go_enter Tryz.func221,Tryz.ntmps221;go_wp2_with (first|((with_reducible refine Qu (N:=5) rfl ?_);refine Kd.R_lit (Kd.int .i64) _ 3 ?hg (N:=5) ?hd (xs:=([] :List Int)) (inner:= []) (ok:=fun _=>True) (okp:=fun _=>True) ?hr ?hp (fun _ hk=>hk) trivial (Below.refl _ _) (Nat.le_refl _) (by simp) ?_;(case hd=>rfl);(case hg=>rfl);(case hr=>first|(go_simp;done)|(go_simp;rfl));(case hp=>exact (Reps.none _ _));intro v116 w2 ho3 hb hg_ hnew_;clear hg_ hnew_;(first|rw [←Ny115.out] at ho3|(simp only [Int.reduceToNat] at ho3;rw [←Ny115.out] at ho3));have HO117:=Zk (Kd.R_lower ho3 (Qh (uB HB)));replace HB:=Zk (Qb (uB HB) hb);clear hb ho3))
 go_loopg [3,4] k (fun kq v3 v4 w'=> ∃ (x3_1:List Int) (x4_1:Int),v4= .int .i64 x4_1∧Z0 (Qbn.l0 kq a0 x3_1 x4_1=some r)∧Z0 (kq≤k)∧Z0 (Kd.R (Kd.int .i64) 3 w' w.heap.size (fun _=>True) v3 x3_1)∧Z0 (Below w.heap.size w w'))
 case atStart=>exact ⟨(y115),(1),(by first|rfl|(simp;done)|(simp [*];done)),H',⟨Nat.le_refl _⟩,⟨uR HO117⟩,⟨uB HB⟩⟩
 case round=>
  clear H'
  skip
  obtain ⟨x3_1,x4_1,rfl,HA,HK1,HO_3,HB⟩:=hrel;cases gk with
  |zero=>exact absurd HA.out (by simp [Qbn.l0])
  |succ k1=>
   have H:=HA.out;clear HA;simp only [Qbn.l0] at H
   by_cases c4:x4_1≤a0
   ·
    rw [if_pos c4] at H;have c4b0:=decide_eq_true c4;clear c4
    by_cases c5:x4_1=0
    ·
     rw [if_pos c5] at H;exact absurd H (by simp)
    ·
     rw [if_neg c5] at H;have c5b0:(x4_1==0)=false:=beq_eq_false_iff_ne.mpr c5;have c5b1:(x4_1 !=0)=true:=bne_iff_ne.mpr c5
     by_cases c6:(Int.tmod a0 x4_1)=0
     ·
      rw [if_pos c6] at H;have c6b0:((Int.tmod a0 x4_1)==0)=true:=beq_iff_eq.mpr c6;have c6b1:((Int.tmod a0 x4_1) !=0)=false:=bne_eq_false_iff_eq.mpr c6;clear c6
      by_cases c7:x3_1.length<17592186044416
      ·
       rw [if_pos c7] at H;have LMc7:=Zk c7;clear c7;obtain ⟨y118,hy118⟩: ∃ y_:List Int,y_=(x3_1++ [x4_1]):=⟨_,rfl⟩
       replace H:(Qbn.l0 k1 a0 y118 (wrap64 (x4_1+1)))=some r:=by first|(rw [hy118];with_reducible exact H)|(have H2_:=(Option.bind_some _ _).symm.trans H;rw [hy118];with_reducible exact H2_)|(have H2_:=(Option.bind_some _ _).symm.trans H;with_reducible exact H2_)|with_reducible exact H|(rw [hy118];exact H)|exact H
       have Ny118:=Zk hy118;clear hy118;have H':=Zk H;clear H;go_wp2_with (first|((with_reducible refine Qb1 (b:= .append) (xs:= #[.tmp 15, .tmp 17]) rfl ?_);at_builtin;refine Kd.R_append (Kd.int .i64) (w0:=w) w.heap.size rfl (.tmp 15) (.tmp 17) 24 3 (.int .i64 0) 8 rfl Tryz.underlying24 Qdq rfl (by decide) (by omega) u3 x3_1 x4_1 [.int .i64 x4_1] (fun _=>True) (fun _=>False) rfl rfl ?aP (fun _ hk=>hk.elim) ?aF ?aO ?aB ?aS ?aL ?_;(case aP=>exact rfl);(case aB=>exact (uB HB));(case aF=>exact (fun _ _=>trivial));(case aO=>exact (uR HO_3));(case aS=>exact (Qh (uB HB)));(case aL=>have:=LMc7.out;omega);intro v119 w8 ho hb hg hat;rw [←Ny118.out] at ho;replace HB:=Zk (hb);have HO120:=Zk (ho);clear HO_3;clear ho hb hg hat));go_roundg k1
       case measure=>have:=HK1.out;omega
       case rel=>exact ⟨(y118),(wrap64 (x4_1+1)),(by first|rfl|(simp;done)|(simp [*];done)),H',⟨by have:=HK1.out;omega⟩,⟨uR HO120⟩,⟨uB HB⟩⟩
      ·
       rw [if_neg c7] at H;exact absurd H (by simp)
     ·
      rw [if_neg c6] at H;have c6b0:((Int.tmod a0 x4_1)==0)=false:=beq_eq_false_iff_ne.mpr c6;have c6b1:((Int.tmod a0 x4_1) !=0)=true:=bne_iff_ne.mpr c6;have H':=Zk H;clear H;go_wp2;go_roundg k1
      case measure=>have:=HK1.out;omega
      case rel=>exact ⟨(x3_1),(wrap64 (x4_1+1)),(by first|rfl|(simp;done)|(simp [*];done)),H',⟨by have:=HK1.out;omega⟩,⟨uR HO_3⟩,⟨uB HB⟩⟩
   ·
    rw [if_neg c4] at H;have c4b0:=decide_eq_false c4;clear c4;obtain rfl:=Option.some.inj H;go_wp2
    go_ret
    exact ⟨_,by first|rfl|(simp [Qe,Qf] <;>rfl)|(simp [*,Qe,Qf] <;>rfl),uR HO_3,uB HB⟩
end Go.Proofs.YtkgngggppcmpfaaGreat.L
end
section
namespace Go.Proofs.YtkgngggppcmpfaaGreat.L
open Go.RowKit Go.Proofs.YtkgngggppcmpfaaGreatW.PrintWords Go.Proofs.YtkgngggppcmpfaaGreatW.PrintLast Go.Proofs.YtkgngggppcmpfaaGreatW.PrintMore
attribute [local go_sem] Qy Q0 Qbb Qbc Qp Qq Qz Q1
set_option linter.unusedVariables false
set_option linter.unusedSimpArgs false
def Qcj.l0:Nat→Int→Int→Int→Option (Int)
 |0,_,_,_=>none
 |k+1,x0,x3,x4=>if x4≤x0 then (if x4=0 then (none) else (if (Int.tmod x0 x4)=0 then (if (Int.tmod (wrap64 (Int.tdiv x0 x4)) x4)=0 then (some 0) else (Qcj.l0 k (wrap64 (Int.tdiv x0 x4)) (wrap64 (-x3)) (wrap64 (x4+1)))) else (Qcj.l0 k x0 x3 (wrap64 (x4+1))))) else (some x3)
def Qcj.f (k:Nat) (a0:Int):Option (Int):=Qcj.l0 k a0 1 2
theorem Qcj.mono_l: ∀ k,(∀ y0 y1 y2,LeO (Qcj.l0 k y0 y1 y2) (Qcj.l0 (k+1) y0 y1 y2))
 |0=>fun _ _ _ r h=>by simp [Qcj.l0] at h
 |k+1=>by
  have ih0:=Qcj.mono_l k
  ·
   intro y0 y1 y2;unfold Qcj.l0
   repeat' first
   |(with_reducible exact ih0 _ _ _)
   |(with_reducible exact LeO.refl _)
   |(with_reducible exact LeO.none _)
   |(with_reducible refine LeO.ite ?_ ?_)
   |(with_reducible refine LeO.bind ?_ (fun _=> ?_))
   |exact ih0 _ _ _
   |exact LeO.none _
   |refine LeO.ite ?_ ?_
   |refine LeO.bind ?_ (fun _=> ?_)
theorem Qcj.mono: ∀ a0 k,LeO (Qcj.f k a0) (Qcj.f (k+1) a0):=by
 intro a0 k;have ih0:=Qcj.mono_l k;unfold Qcj.f
 repeat' (with_reducible first|apply ih0|exact LeO.refl _|exact LeO.none _|refine LeO.ite ?_ ?_|refine LeO.bind ?_ (fun _=> ?_))
set_option maxHeartbeats 8000000 in
set_option maxRecDepth 100000 in
theorem Qcj.calls (k:Nat) (a0:Int) (r:Int) (w:World) (h:Qcj.f k a0=some r):
 Calls Tryz.prog 304 #[.int .i64 a0] w fun e w'=>e= .returned (.int .i64 r)∧Drawn0 w w':=by
 have H:(Qcj.l0 k a0 1 2)=some r:=h;clear h;have H':=Zk H;clear H;go_enter Tryz.func304,Tryz.ntmps304;go_wp2
 go_loopg [0,3,4] k (fun kq v0 v3 v4 w'=> ∃ (x0_1:Int) (x3_1:Int) (x4_1:Int),v0= .int .i64 x0_1∧v3= .int .i64 x3_1∧v4= .int .i64 x4_1∧Z0 (Qcj.l0 kq x0_1 x3_1 x4_1=some r)∧Z0 (kq≤k)∧Drawn0 w w')
 case atStart=>exact ⟨(a0),(1),(2),(by first|rfl|(simp;done)|(simp [*];done)),(by first|rfl|(simp;done)|(simp [*];done)),(by first|rfl|(simp;done)|(simp [*];done)),H',⟨Nat.le_refl _⟩,by repeat (first|exact Drawn0.refl _|apply Drawn0.step)⟩
 case round=>
  clear H';obtain ⟨x0_1,x3_1,x4_1,rfl,rfl,rfl,HA,HK1,⟨m1,rfl⟩⟩:=hrel;cases gk with
  |zero=>exact absurd HA.out (by simp [Qcj.l0])
  |succ k1=>
   have H:=HA.out;clear HA;simp only [Qcj.l0] at H
   by_cases c2:x4_1≤x0_1
   ·
    rw [if_pos c2] at H;have c2b0:=decide_eq_true c2;clear c2
    by_cases c3:x4_1=0
    ·
     rw [if_pos c3] at H;exact absurd H (by simp)
    ·
     rw [if_neg c3] at H;have c3b0:(x4_1==0)=false:=beq_eq_false_iff_ne.mpr c3;have c3b1:(x4_1 !=0)=true:=bne_iff_ne.mpr c3
     by_cases c4:(Int.tmod x0_1 x4_1)=0
     ·
      rw [if_pos c4] at H;have c4b0:((Int.tmod x0_1 x4_1)==0)=true:=beq_iff_eq.mpr c4;have c4b1:((Int.tmod x0_1 x4_1) !=0)=false:=bne_eq_false_iff_eq.mpr c4;clear c4
      by_cases c5:(Int.tmod (wrap64 (Int.tdiv x0_1 x4_1)) x4_1)=0
      ·
       rw [if_pos c5] at H;have c5b0:((Int.tmod (wrap64 (Int.tdiv x0_1 x4_1)) x4_1)==0)=true:=beq_iff_eq.mpr c5;have c5b1:((Int.tmod (wrap64 (Int.tdiv x0_1 x4_1)) x4_1) !=0)=false:=bne_eq_false_iff_eq.mpr c5;clear c5;obtain rfl:=Option.some.inj H;go_wp2
       go_ret
       exact ⟨by first|rfl|(simp;done)|(simp [*];done),by repeat (first|exact Drawn0.refl _|apply Drawn0.step)⟩
      ·
       rw [if_neg c5] at H;have c5b0:((Int.tmod (wrap64 (Int.tdiv x0_1 x4_1)) x4_1)==0)=false:=beq_eq_false_iff_ne.mpr c5;have c5b1:((Int.tmod (wrap64 (Int.tdiv x0_1 x4_1)) x4_1) !=0)=true:=bne_iff_ne.mpr c5;have H':=Zk H;clear H;go_wp2;go_roundg k1
       case measure=>have:=HK1.out;omega
       case rel=>exact ⟨(wrap64 (Int.tdiv x0_1 x4_1)),(wrap64 (-x3_1)),(wrap64 (x4_1+1)),(by first|rfl|(simp;done)|(simp [*];done)),(by first|rfl|(simp;done)|(simp [*];done)),(by first|rfl|(simp;done)|(simp [*];done)),H',⟨by have:=HK1.out;omega⟩,by repeat (first|exact Drawn0.refl _|apply Drawn0.step)⟩
     ·
      rw [if_neg c4] at H;have c4b0:((Int.tmod x0_1 x4_1)==0)=false:=beq_eq_false_iff_ne.mpr c4;have c4b1:((Int.tmod x0_1 x4_1) !=0)=true:=bne_iff_ne.mpr c4;have H':=Zk H;clear H;go_wp2;go_roundg k1
      case measure=>have:=HK1.out;omega
      case rel=>exact ⟨(x0_1),(x3_1),(wrap64 (x4_1+1)),(by first|rfl|(simp;done)|(simp [*];done)),(by first|rfl|(simp;done)|(simp [*];done)),(by first|rfl|(simp;done)|(simp [*];done)),H',⟨by have:=HK1.out;omega⟩,by repeat (first|exact Drawn0.refl _|apply Drawn0.step)⟩
   ·
    rw [if_neg c2] at H;have c2b0:=decide_eq_false c2;clear c2;obtain rfl:=Option.some.inj H;go_wp2
    go_ret
    exact ⟨by first|rfl|(simp;done)|(simp [*];done),by repeat (first|exact Drawn0.refl _|apply Drawn0.step)⟩
def Qbu.g (k:Nat) (m d n:Int):Int:=if Int.tmod d n=0 then wrap64 (n*((Qcj.f k (wrap64 (Int.tdiv m n))).getD 0)) else 0
def Qbu.ok (k:Nat) (m d:Int) (l:List Int):Bool:=l.all fun n=>n !=0 && (Int.tmod d n !=0||(Qcj.f k (wrap64 (Int.tdiv m n))).isSome)
def Qbu.f (k:Nat) (m:Int) (d:Int):Option Int:=(Qbn.f k m).bind fun l=>if l.length≤9223372036854775806∧Qbu.ok k m d l=true then some (Go.Proofs.YtkgngggppcmpfaaGreat.X.sumF (Qbu.g k m d) l) else none
theorem Qbu.sumFrom_congr {f g:Int→Int} : ∀ (l:List Int) (n:Int),(∀ x ∈ l,f x=g x)→Go.Proofs.YtkgngggppcmpfaaGreat.X.sumFrom f l n=Go.Proofs.YtkgngggppcmpfaaGreat.X.sumFrom g l n
 | [],_,_=>rfl
 |x::l,n,h=>by
  unfold Go.Proofs.YtkgngggppcmpfaaGreat.X.sumFrom;rw [List.foldl_cons,List.foldl_cons,h x List.mem_cons_self];exact Qbu.sumFrom_congr l _ fun y hy=>h y (List.mem_cons_of_mem _ hy)
theorem Qbu.mono: ∀ a0 a1 k,LeO (Qbu.f k a0 a1) (Qbu.f (k+1) a0 a1):=by
 intro m d k;unfold Qbu.f;refine LeO.bind (Qbn.mono _ _) fun l=> ?_
 intro r h
 split at h
 ·
  rename_i hc;obtain rfl:=Option.some.inj h;have hok:=hc.2;unfold Qbu.ok at hok;rw [List.all_eq_true] at hok;have hm: ∀ n,∀ v,Qcj.f k n=some v→Qcj.f (k+1) n=some v:=fun n v hv=>Qcj.mono n k v hv
  rw [if_pos]
  ·
   refine congrArg some ?_;unfold Go.Proofs.YtkgngggppcmpfaaGreat.X.sumF;refine (Qbu.sumFrom_congr l 0 fun n hn=> ?_).symm;have hz:=hok n hn;unfold Qbu.g
   by_cases ht:Int.tmod d n=0
   ·
    rw [if_pos ht,if_pos ht];rw [ht] at hz;cases hv:Qcj.f k (wrap64 (Int.tdiv m n)) with
    |none=>rw [hv] at hz;simp at hz
    |some v=>rw [hm _ v hv]
   ·
    rw [if_neg ht,if_neg ht]
  ·
   refine ⟨hc.1,?_⟩;unfold Qbu.ok;rw [List.all_eq_true];intro n hn;have hz:=hok n hn;rw [Bool.and_eq_true,Bool.or_eq_true] at hz ⊢;refine ⟨hz.1,?_⟩;rcases hz.2 with h1|h1
   ·
    exact .inl h1
   ·
    obtain ⟨v,hv⟩:=Option.isSome_iff_exists.mp h1;exact .inr (by rw [hm _ v hv];rfl)
 ·
  cases h
open Go.Proofs.YtkgngggppcmpfaaGreat.X in
set_option maxHeartbeats 800000 in
set_option maxRecDepth 100000 in
theorem Qbu.lit (k:Nat) (m d n:Int) (B1 B2:Nat) (w:World) (hB1:B1<w.heap.size) (hc1:w.cell? ⟨B1,0,none⟩=some (.int .i64 d)) (hB2:B2<w.heap.size) (hc2:w.cell? ⟨B2,0,none⟩=some (.int .i64 m)) (hn:n≠0)
 (hk:Int.tmod d n=0→ ∃ v,Qcj.f k (wrap64 (Int.tdiv m n))=some v):
 Fv Tryz.prog 303 #[.pointer (some ⟨B1,0,none⟩), .pointer (some ⟨B2,0,none⟩)] #[.int .i64 n] (.int .i64 (Qbu.g k m d n)) w:=by
 intro W hb;have q1:W.cell? ⟨B1,0,none⟩=some (.int .i64 d):=(hb.cell (p:=⟨B1,0,none⟩) hB1).trans hc1;have q2:W.cell? ⟨B2,0,none⟩=some (.int .i64 m):=(hb.cell (p:=⟨B2,0,none⟩) hB2).trans hc2;unfold Qbu.g;clear hc1 hc2 hB1 hB2 hb
 by_cases hz:Int.tmod d n=0
 ·
  obtain ⟨v,hv⟩:=hk hz;rw [if_pos hz,hv];have HV:=Zk hv;clear hv hk;show Calls _ _ _ _ fun e w'=>e= .returned (.int .i64 (wrap64 (n*v)))∧_
  go_enter Tryz.func303,Tryz.ntmps303;go_wp2_with (go_at_call 304;(with_reducible refine (Qcj.calls k (wrap64 (Int.tdiv m n)) v _ HV.out).mono ?_);rintro e w1 ⟨rfl,⟨nd,rfl⟩⟩)
  go_ret
  exact ⟨rfl,Qk (Below.refl _ _) _⟩
 ·
  rw [if_neg hz];clear hk;have hz1:(Int.tmod d n !=0)=true:=bne_iff_ne.mpr hz;have hz2:decide (Int.tmod d n=0)=false:=decide_eq_false hz;go_enter Tryz.func303,Tryz.ntmps303;go_wp2
  go_ret
  exact ⟨rfl,by first|exact Below.refl _ _|exact Qk (Below.refl _ _) _⟩
open Go.Proofs.YtkgngggppcmpfaaGreat.X in
set_option maxHeartbeats 800000 in
set_option maxRecDepth 100000 in
theorem Qbu.calls (k:Nat) (a0:Int) (a1:Int) (r:Int) (w:World) (h:Qbu.f k a0 a1=some r):
 Calls Tryz.prog 223 #[.int .i64 a0, .int .i64 a1] w fun e w'=>e= .returned (.int .i64 r)∧Below w.heap.size w w':=by
 unfold Qbu.f at h;obtain ⟨l,hl,h⟩:=Option.bind_eq_some_iff.mp h
 split at h
 ·
  rename_i hc;obtain rfl:=Option.some.inj h;have HD:=Zk hl;have HC:=Zk hc;clear h hl hc;go_enter Tryz.func223,Tryz.ntmps223;go_wp2_with fail;refine (Qbn.calls k a0 l _ HD.out).mono ?_;rintro e w1 ⟨v0,rfl,hR,hb⟩;obtain ⟨Ao,co,rfl,hl,hC⟩:=Kd.R_reads hR;have z1:=Zk (show w.heap.size<w1.heap.size by have:=hb.size;simp at this;omega);have z2:=Zk (show w.heap.size+1<w1.heap.size by have:=hb.size;simp at this;omega);have c1:=Zk (show w1.cell? ⟨w.heap.size,0,none⟩=some (.int .i64 a0) from (hb.cell (p:=⟨w.heap.size,0,none⟩) (by simp;omega)).trans (by simp));have c2:=Zk (show w1.cell? ⟨w.heap.size+1,0,none⟩=some (.int .i64 a1) from (hb.cell (p:=⟨w.heap.size+1,0,none⟩) (by simp)).trans (by simp));have B1:=Zk (Qbp (Qj (Qj (Below.refl w.heap.size w) _) _) hb);have HL:=Zk hC;clear hb hR hC hl;go_wp2_with fail;refine (Qgo.calls Ao co l 303 #[.pointer (some ⟨w.heap.size+1,0,none⟩), .pointer (some ⟨w.heap.size,0,none⟩)] (Qbu.g k a0 a1) _ (Qet Tryz.func303 (by kernel_rfl) rfl) HL.out HC.out.1 (fun x hx=> ?_)).mono ?_
  ·
   have hok:=HC.out.2;unfold Qbu.ok at hok;rw [List.all_eq_true] at hok;have hz:=hok x hx;rw [Bool.and_eq_true,Bool.or_eq_true] at hz;refine Qbu.lit k a0 a1 x _ _ _ z2.out c2.out z1.out c1.out (by simpa using hz.1) fun ht=> ?_
   rcases hz.2 with h1|h1
   ·
    rw [ht] at h1;simp at h1
   ·
    exact Option.isSome_iff_exists.mp h1
  rintro e w2 ⟨rfl,hb⟩;have B2:=Zk (Qbp B1.out hb);clear hb;go_wp2
  go_ret
  exact ⟨rfl,B2.out⟩
 ·
  cases h
def Qi.g (k:Nat) (l0:List Int) (d x:Int):Int:=wrap64 (rd l0 (Int.tmod x (l0.length:Int))*((Qbu.f k (wrap64 (Int.tdiv (l0.length:Int) x)) d).getD 0))
def Qi.ok (k:Nat) (l0:List Int):Bool:=(List.range l0.length).all fun r=>(Qdf.f k (l0.length:Int) (r:Int)).any fun g=>decide (0≤Int.tmod g (l0.length:Int)) && decide (Int.tmod g (l0.length:Int)<(l0.length:Int))
def Qi.same (k:Nat) (l0:List Int):Bool:=(List.range l0.length).all fun r=>rd l0 (r:Int)==rd l0 (Int.tmod ((Qdf.f k (l0.length:Int) (r:Int)).getD 0) (l0.length:Int))
def Qi.ok2 (k:Nat) (l0:List Int) (d:Int) (l:List Int):Bool:=l.all fun x=>x !=0 && decide (0≤Int.tmod x (l0.length:Int)) && decide (Int.tmod x (l0.length:Int)<(l0.length:Int)) && (Qbu.f k (wrap64 (Int.tdiv (l0.length:Int) x)) d).isSome
def Qi.last (k:Nat) (l0:List Int) (a1:Int):Option (Int × Bool):=if Qi.same k l0=true then (Qbn.f k (l0.length:Int)).bind fun l=>if l.length≤9223372036854775806∧Qi.ok2 k l0 a1 l=true then some (Go.Proofs.YtkgngggppcmpfaaGreat.X.sumF (Qi.g k l0 a1) l,true) else none else some (0,false)
def Qi.f (k:Nat) (l0:List Int) (a1:Int):Option (Int × Bool):=(Qde.f l0).bind fun t=>if t=true then (Qbv.f a1 0 60).bind fun b=>if b=true then (if 0<l0.length∧l0.length≤9223372036854775806∧Qi.ok k l0=true then Qi.last k l0 a1 else none) else some (0,false) else some (0,false)
theorem Qi.all_congr {α:Type} {p q:α→Bool} : ∀ l:List α,(∀ x ∈ l,p x=q x)→l.all p=l.all q
 | [],_=>rfl
 |x::l,h=>by rw [List.all_cons,List.all_cons,h x List.mem_cons_self,Qi.all_congr l fun y hy=>h y (List.mem_cons_of_mem _ hy)]
theorem Qi.ok_at {k:Nat} {l0:List Int} (h:Qi.ok k l0=true) (r:Nat) (hr:r<l0.length):
 ∃ g,Qdf.f k (l0.length:Int) (r:Int)=some g∧0≤Int.tmod g (l0.length:Int)∧Int.tmod g (l0.length:Int)<(l0.length:Int):=by
 unfold Qi.ok at h;rw [List.all_eq_true] at h;have h1:=h r (List.mem_range.mpr hr);cases hg:Qdf.f k (l0.length:Int) (r:Int) with
 |none=>rw [hg] at h1;cases h1
 |some g=>
  rw [hg] at h1;have h2:(decide (0≤Int.tmod g (l0.length:Int)) && decide (Int.tmod g (l0.length:Int)<(l0.length:Int)))=true:=h1;rw [Bool.and_eq_true,decide_eq_true_eq,decide_eq_true_eq] at h2;exact ⟨g,rfl,h2⟩
theorem Qi.ok_mono {k:Nat} {l0:List Int} (h:Qi.ok k l0=true):
 Qi.ok (k+1) l0=true∧Qi.same (k+1) l0=Qi.same k l0:=by
 constructor
 ·
  unfold Qi.ok;rw [List.all_eq_true];intro r hr;obtain ⟨g,hg,h1,h2⟩:=Qi.ok_at h r (List.mem_range.mp hr);rw [Qdf.mono _ _ k g hg];show (decide (0≤Int.tmod g (l0.length:Int)) && decide (Int.tmod g (l0.length:Int)<(l0.length:Int)))=true
  rw [Bool.and_eq_true,decide_eq_true_eq,decide_eq_true_eq];exact ⟨h1,h2⟩
 ·
  unfold Qi.same;refine Qi.all_congr _ fun r hr=> ?_
  obtain ⟨g,hg,h1,h2⟩:=Qi.ok_at h r (List.mem_range.mp hr);rw [hg,Qdf.mono _ _ k g hg]
theorem Qi.ok2_at {k:Nat} {l0:List Int} {d:Int} {l:List Int} (h:Qi.ok2 k l0 d l=true) (x:Int) (hx:x ∈ l):
 x≠0∧0≤Int.tmod x (l0.length:Int)∧Int.tmod x (l0.length:Int)<(l0.length:Int)∧ ∃ v,Qbu.f k (wrap64 (Int.tdiv (l0.length:Int) x)) d=some v:=by
 unfold Qi.ok2 at h;rw [List.all_eq_true] at h;have h1:=h x hx;rw [Bool.and_eq_true,Bool.and_eq_true,Bool.and_eq_true,bne_iff_ne,decide_eq_true_eq,decide_eq_true_eq,Option.isSome_iff_exists] at h1;exact ⟨h1.1.1.1,h1.1.1.2,h1.1.2,h1.2⟩
theorem Qi.mono: ∀ a0 a1 k,LeO (Qi.f k a0 a1) (Qi.f (k+1) a0 a1):=by
 intro l0 d k r h;unfold Qi.f at h ⊢;obtain ⟨t,ht,h⟩:=Option.bind_eq_some_iff.mp h;rw [ht];show (if t=true then _ else _)=_
 by_cases ct:t=true
 ·
  rw [if_pos ct] at h ⊢;obtain ⟨b,hb,h⟩:=Option.bind_eq_some_iff.mp h;rw [hb];show (if b=true then _ else _)=_
  by_cases cb:b=true
  ·
   rw [if_pos cb] at h ⊢
   split at h
   ·
    rename_i hc;obtain ⟨o1,o2⟩:=Qi.ok_mono hc.2.2;rw [if_pos ⟨hc.1,hc.2.1,o1⟩];unfold Qi.last at h ⊢;rw [o2]
    split at h
    ·
     rename_i hs;rw [if_pos hs];obtain ⟨l,hl,h⟩:=Option.bind_eq_some_iff.mp h;rw [Qbn.mono _ k l hl];show (if _ then _ else _)=_
     split at h
     ·
      rename_i h2;obtain rfl:=Option.some.inj h;rw [if_pos]
      ·
       refine congrArg (fun n=>some (n,true)) ?_;unfold Go.Proofs.YtkgngggppcmpfaaGreat.X.sumF;refine (Qbu.sumFrom_congr l 0 fun n hn=> ?_).symm;obtain ⟨_,_,_,v,hv⟩:=Qi.ok2_at h2.2 n hn;unfold Qi.g;rw [hv,Qbu.mono _ _ k v hv]
      ·
       refine ⟨h2.1,?_⟩;unfold Qi.ok2;rw [List.all_eq_true];intro n hn;obtain ⟨e1,e2,e3,v,hv⟩:=Qi.ok2_at h2.2 n hn;rw [Bool.and_eq_true,Bool.and_eq_true,Bool.and_eq_true,bne_iff_ne,decide_eq_true_eq,decide_eq_true_eq,Option.isSome_iff_exists];exact ⟨⟨⟨e1,e2⟩,e3⟩,v,Qbu.mono _ _ k v hv⟩
     ·
      cases h
    ·
     rename_i hs;rw [if_neg hs];exact h
   ·
    cases h
  ·
   rw [if_neg cb] at h ⊢;exact h
 ·
  rw [if_neg ct] at h ⊢;exact h
open Go.Proofs.YtkgngggppcmpfaaGreat.X in
set_option maxHeartbeats 800000 in
set_option maxRecDepth 100000 in
theorem Qi.lit (k:Nat) (A0:Option Addr) (c0:Nat) (l0:List Int) (d x:Int) (B1 B2 B3:Nat) (w:World) (hB1:B1<w.heap.size) (hc1:w.cell? ⟨B1,0,none⟩=some (.slice A0 l0.length c0)) (hB2:B2<w.heap.size) (hc2:w.cell? ⟨B2,0,none⟩=some (.int .i64 (l0.length:Int))) (hB3:B3<w.heap.size) (hc3:w.cell? ⟨B3,0,none⟩=some (.int .i64 d))
 (hC:Kd.C (Kd.int .i64) w A0 l0.length l0) (hn:x≠0) (p1:0≤Int.tmod x (l0.length:Int)) (p2:Int.tmod x (l0.length:Int)<(l0.length:Int)) (v:Int) (hv:Qbu.f k (wrap64 (Int.tdiv (l0.length:Int) x)) d=some v):
 Fv Tryz.prog 222 #[.pointer (some ⟨B1,0,none⟩), .pointer (some ⟨B2,0,none⟩), .pointer (some ⟨B3,0,none⟩)] #[.int .i64 x] (.int .i64 (Qi.g k l0 d x)) w:=by
 intro W hb;have q1:W.cell? ⟨B1,0,none⟩=some (.slice A0 l0.length c0):=(hb.cell (p:=⟨B1,0,none⟩) hB1).trans hc1;have q2:W.cell? ⟨B2,0,none⟩=some (.int .i64 (l0.length:Int)):=(hb.cell (p:=⟨B2,0,none⟩) hB2).trans hc2;have q3:W.cell? ⟨B3,0,none⟩=some (.int .i64 d):=(hb.cell (p:=⟨B3,0,none⟩) hB3).trans hc3;obtain ⟨ad,e1,hx⟩:=Kd.at_int (Kd.C_below hC hb) (Int.tmod x (l0.length:Int)) p1 p2;cases e1;unfold Qi.g;rw [hv];obtain ⟨m,hm⟩: ∃ m:Int,m=(l0.length:Int):=⟨_,rfl⟩
 have p3:Int.tmod x m<(l0.length:Int):=by rw [hm];exact p2
 have hm0:m≠0:=by intro e;rw [←hm,e] at p2;rw [←hm,e] at p1;simp at p1 p2;omega
 rw [←hm] at q2 hx hv p1 ⊢;have HV:=Zk (show Qbu.f k (IntKind.i64.wrap (Int.tdiv m x)) d=some v by rw [Qcm];exact hv);clear hv hC hc1 hc2 hc3 hB1 hB2 hB3 hb p2 hm;obtain ⟨u,hu⟩: ∃ u,u=rd l0 (Int.tmod x m):=⟨_,rfl⟩
 rw [←hu] at hx ⊢;clear hu;show Calls _ _ _ _ fun e w'=>e= .returned (.int .i64 (wrap64 (u*v)))∧_
 go_enter Tryz.func222,Tryz.ntmps222;go_wp2
 go_region_held3 (fun w'=>w'.cell? ⟨B1,0,none⟩=some (.slice (some ad) l0.length c0)∧w'.cell? ⟨B2,0,none⟩=some (.int .i64 m)∧w'.cell? ⟨B3,0,none⟩=some (.int .i64 d)∧w'.cell? (ad.add (Int.tmod x m).toNat)=some (.int .i64 u)∧Below W.heap.size W w')
  (first|exact ⟨q1,q2,q3,hx,Qdo (Below.refl _ _)⟩|exact ⟨Qcb hb (by assumption),Qcb hb (by assumption),Qcb hb (by assumption),Qcb hb (by assumption),(by first|exact Qbp (by assumption) hb|exact Qbp (Qdo (Below.refl _ _)) hb)⟩)
  (first|(go_at_call 223;(with_reducible refine (Qbu.calls k (IntKind.i64.wrap (Int.tdiv m x)) d v _ HV.out).mono ?_);rintro e w1 ⟨rfl,hb⟩))
 go_wp2
 go_ret
 exact ⟨by rw [←Qcm (u*v)];rfl,Qbp (Qdo (Below.refl _ _)) hb⟩
open Go.Proofs.YtkgngggppcmpfaaGreat.X in
set_option maxHeartbeats 1600000 in
set_option maxRecDepth 100000 in
theorem Qi.main (k:Nat) (A0:Option Addr) (c0:Nat) (l0:List Int) (a1:Int) (r1:Int) (r2:Bool) (w:World) (HR:Z0 (Kd.C (Kd.int .i64) w A0 l0.length l0)) (HC:Z0 (l0.length≤c0))
 (HT:Z0 (Qde.f l0=some true)) (HW:Z0 (Qbv.f a1 0 60=some true)) (hl1:0<l0.length) (L0:Z0 (l0.length≤9223372036854775806)) (OK:Z0 (Qi.ok k l0=true)) (HF:Z0 (Qi.last k l0 a1=some (r1,r2))):
 Calls Tryz.prog 69 #[.slice A0 l0.length c0, .int .i64 a1] w fun e w'=>e= .returned (.tuple #[.int .i64 r1, .bool r2])∧Below w.heap.size w w':=by
 go_enter Tryz.func69,Tryz.ntmps69;go_wp2_with fail;refine (Qde.calls A0 c0 l0 true _ (Kd.C_alloc (Kd.C_alloc HR.out _) _) HC.out HT.out).mono ?_;rintro e w1 ⟨rfl,hb⟩;have z1:=Zk (show w.heap.size<w1.heap.size by have:=hb.size;simp at this;omega);have z2:=Zk (show w.heap.size+1<w1.heap.size by have:=hb.size;simp at this;omega);have c1:=Zk (show w1.cell? ⟨w.heap.size,0,none⟩=some (.slice A0 l0.length c0) from (hb.cell (p:=⟨w.heap.size,0,none⟩) (by simp;omega)).trans (by simp));have c2:=Zk (show w1.cell? ⟨w.heap.size+1,0,none⟩=some (.int .i64 a1) from (hb.cell (p:=⟨w.heap.size+1,0,none⟩) (by simp)).trans (by simp));have B1:=Zk (Qbp (Qj (Qj (Below.refl w.heap.size w) _) _) hb);clear hb;have s2:=c2.out;go_wp2_with (go_at_call 159;(with_reducible refine (Qbv.calls a1 0 60 true _ HW.out).mono ?_);rintro e w2 ⟨rfl,⟨nd,hnd⟩⟩;have B2:=Zk (show Below w.heap.size w w2 by rw [hnd];exact Qk B1.out nd);have z3:=Zk (show w.heap.size<w2.heap.size by rw [hnd];exact z1.out);have z4:=Zk (show w.heap.size+1<w2.heap.size by rw [hnd];exact z2.out);have c3:=Zk (show w2.cell? ⟨w.heap.size,0,none⟩=some (.slice A0 l0.length c0) by rw [hnd];exact c1.out);have c4:=Zk (show w2.cell? ⟨w.heap.size+1,0,none⟩=some (.int .i64 a1) by rw [hnd];exact c2.out);clear s2;clear hnd z1 z2 c1 c2 B1;have t1:=c3.out;have t2: ∀ o,(World.alloc w2 o).cell? ⟨w.heap.size,0,none⟩=some (.slice A0 l0.length c0):=fun o=>((Qj (Below.refl w2.heap.size w2) o).cell (p:=⟨w.heap.size,0,none⟩) z3.out).trans c3.out);obtain ⟨W0,hW0⟩: ∃ W0,W0=w2.alloc (.cells #[.int .i64 (l0.length:Int)] 3):=⟨_,rfl⟩
 rw [←hW0];clear t1 t2;have s1:=Zk (show W0.cell? ⟨w.heap.size,0,none⟩=some (.slice A0 l0.length c0) by rw [hW0];exact ((Qj (Below.refl w2.heap.size w2) _).cell (p:=⟨w.heap.size,0,none⟩) z3.out).trans c3.out);have s2:=Zk (show W0.cell? ⟨w.heap.size+1,0,none⟩=some (.int .i64 a1) by rw [hW0];exact ((Qj (Below.refl w2.heap.size w2) _).cell (p:=⟨w.heap.size+1,0,none⟩) z4.out).trans c4.out);have s3:=Zk (show W0.cell? ⟨w2.heap.size,0,none⟩=some (.int .i64 (l0.length:Int)) by rw [hW0];simp);have B3:=Zk (show Below w.heap.size w W0 by rw [hW0];exact Qj B2.out _);generalize w2.heap.size=nb at s3;clear hW0 z3 z4 c3 c4 B2
 go_loopw [21] (fun v21 wr=> ∃ k1:Nat,k1≤l0.length∧v21= .int .i64 k1∧Z0 (∀ i:Nat,i<k1→rd l0 (i:Int)=rd l0 (Int.tmod ((Qdf.f k (l0.length:Int) (i:Int)).getD 0) (l0.length:Int)))∧Z0 (Below W0.heap.size W0 wr)) (fun v21 _=>l0.length - (intOf v21).toNat)
 case atStart=>exact ⟨0,Nat.zero_le _,rfl,⟨fun i hi=>absurd hi (Nat.not_lt_zero _)⟩,⟨Below.refl _ _⟩⟩
 case round=>
  obtain ⟨k1,hk,rfl,HI,HB⟩:=hrel;have HCw:=Zk (Kd.C_below HR.out (Qbp B3.out HB.out));have r1:=Qcb HB.out s1.out;have r3:=Qcb HB.out s3.out
  by_cases hlt:k1<l0.length
  ·
   obtain ⟨g,hg,g1,g2⟩:=Qi.ok_at OK.out k1 hlt;have p1:0≤((k1:Nat):Int):=by omega
   have q1:((k1:Nat):Int)<(l0.length:Int):=by omega
   obtain ⟨ad,e1,hx⟩:=Kd.at_int HCw.out k1 p1 q1;rw [Int.toNat_natCast] at hx;cases e1;obtain ⟨ad2,e2,hy⟩:=Kd.at_int HCw.out (Int.tmod g (l0.length:Int)) g1 g2;cases e2;obtain ⟨m,hm⟩: ∃ m:Int,m=(l0.length:Int):=⟨_,rfl⟩
   have p3:Int.tmod g m<(l0.length:Int):=by rw [hm];exact g2
   have hm0:m≠0:=by rw [hm];omega
   rw [←hm] at hg g1 hy r3;have HM:=Zk hm;have HG:=Zk hg;clear hg hm g2;obtain ⟨u,hu⟩: ∃ u,u=rd l0 (k1:Int):=⟨_,rfl⟩
   rw [←hu] at hx;obtain ⟨v,hv⟩: ∃ v,v=rd l0 (Int.tmod g m):=⟨_,rfl⟩
   rw [←hv] at hy;have HU:=Zk hu;have HV:=Zk hv;clear hu hv
   by_cases hq:u=v
   ·
    subst hq;go_wp2_with fail
    go_region_held3 (fun w'=>w'.cell? ⟨w.heap.size,0,none⟩=some (.slice (some ad) l0.length c0)∧w'.cell? ⟨nb,0,none⟩=some (.int .i64 m)∧w'.cell? (ad.add (Int.tmod g m).toNat)=some (.int .i64 u)∧Below wr.heap.size wr w')
     (first|exact ⟨r1,r3,hy,Qdo (Below.refl _ _)⟩|exact ⟨Qcb hb (by assumption),Qcb hb (by assumption),Qcb hb (by assumption),(by first|exact Qbp (by assumption) hb|exact Qbp (Qdo (Below.refl _ _)) hb)⟩)
     (first|(go_at_call 219;refine (Qdf.calls k m (k1:Int) g _ HG.out).mono ?_;rintro e w5 ⟨rfl,hd⟩;have hb:=hd.below))
    have B5:=Zk (Qbp (Qdo (Below.refl _ wr)) hb);clear hb;have e2:wrap64 ((k1:Int)+1)=((k1+1:Nat):Int):=by have hl0:=L0.out;unfold wrap64;omega
    go_wp2
    (try simp only [e2,Qcm])
    clear e2;go_roundw
    case rel=>exact ⟨k1+1,by omega,by first|rfl|go_num,⟨fun i hi=>by
     by_cases c:i=k1
     ·
      subst c;rw [←HM.out,HG.out];show rd l0 (i:Int)=rd l0 (Int.tmod g m);rw [←HU.out,HV.out]
     ·
      exact HI.out i (by omega)⟩,⟨Qbp HB.out B5.out⟩⟩
    case measure=>exact (Nat.sub_lt_sub_left (by omega) (Nat.lt_succ_self k1):l0.length - (k1+1)<l0.length - k1)
   ·
    have hq1:decide (u=v)=false:=decide_eq_false hq;have hq2:(u==v)=false:=beq_eq_false_iff_ne.mpr hq;have hq3:(u !=v)=true:=by rw [bne,hq2];rfl
    have HQ:=Zk hq;clear hq;go_wp2_with fail
    go_region_held3 (fun w'=>w'.cell? ⟨w.heap.size,0,none⟩=some (.slice (some ad) l0.length c0)∧w'.cell? ⟨nb,0,none⟩=some (.int .i64 m)∧w'.cell? (ad.add (Int.tmod g m).toNat)=some (.int .i64 v)∧Below wr.heap.size wr w')
     (first|exact ⟨r1,r3,hy,Qdo (Below.refl _ _)⟩|exact ⟨Qcb hb (by assumption),Qcb hb (by assumption),Qcb hb (by assumption),(by first|exact Qbp (by assumption) hb|exact Qbp (Qdo (Below.refl _ _)) hb)⟩)
     (first|(go_at_call 219;refine (Qdf.calls k m (k1:Int) g _ HG.out).mono ?_;rintro e w5 ⟨rfl,hd⟩;have hb:=hd.below))
    have B5:=Zk (Qbp (Qdo (Below.refl _ wr)) hb);clear hb;go_wp2
    go_ret2
    have e1:Qi.same k l0=false:=by
     unfold Qi.same;rw [List.all_eq_false];refine ⟨k1,List.mem_range.mpr hlt,?_⟩;rw [←HM.out,HG.out];show ¬ ((rd l0 (k1:Int)==rd l0 (Int.tmod g m))=true)
     rw [←HU.out,←HV.out,hq2];simp
    have e2:=HF.out;unfold Qi.last at e2;rw [e1,if_neg (by simp)] at e2;injection e2 with e2
    injection e2 with e3 e4
    subst e3 e4;exact ⟨rfl,Qbp B3.out (Qbp HB.out B5.out)⟩
  ·
   have e1:Qi.same k l0=true:=by
    unfold Qi.same;rw [List.all_eq_true];intro i hi;rw [beq_iff_eq];exact HI.out i (by have:=List.mem_range.mp hi;omega)
   have e2:=HF.out;unfold Qi.last at e2;rw [if_pos e1] at e2;obtain ⟨l,hl,e2⟩:=Option.bind_eq_some_iff.mp e2
   split at e2
   ·
    rename_i hc;injection e2 with e2
    injection e2 with e3 e4
    subst e3 e4;obtain ⟨m,hm⟩: ∃ m:Int,m=(l0.length:Int):=⟨_,rfl⟩
    rw [←hm] at hl r3;have HM:=Zk hm;have HD:=Zk hl;have HL:=Zk hc;have r2:=Zk (Qcb HB.out s2.out);clear hl hc hm e1;go_wp2_with fail;refine (Qbn.calls k m l _ HD.out).mono ?_;rintro e w3 ⟨v0,rfl,hR,hb⟩;obtain ⟨Ao,co,rfl,hl,hC⟩:=Kd.R_reads hR;have x1:=Zk (Qcb hb r1);have x2:=Zk (Qcb hb r2.out);have x3:=Zk (Qcb hb r3);have B5:=Zk (Qbp HB.out hb);have HX:=Zk hC;clear hb hR hC hl r1 r3 r2;go_wp2_with fail;refine (Qgo.calls Ao co l 222 #[.pointer (some ⟨w.heap.size,0,none⟩), .pointer (some ⟨nb,0,none⟩), .pointer (some ⟨w.heap.size+1,0,none⟩)] (Qi.g k l0 a1) _ (Qet Tryz.func222 (by kernel_rfl) rfl) HX.out HL.out.1 (fun x hx=> ?_)).mono ?_
    ·
     obtain ⟨n1,n2,n3,v,hv⟩:=Qi.ok2_at HL.out.2 x hx;exact Qi.lit k A0 c0 l0 a1 x _ _ _ _ (World.block_lt_of_cell? _ _ x1.out) x1.out (World.block_lt_of_cell? _ _ x3.out) (by rw [←HM.out];exact x3.out) (World.block_lt_of_cell? _ _ x2.out) x2.out (Kd.C_below HR.out (Qbp B3.out B5.out)) n1 n2 n3 v hv
    rintro e w4 ⟨rfl,hb⟩;have B6:=Zk (Qbp B5.out hb);clear hb;go_wp2
    go_ret2
    exact ⟨rfl,Qbp B3.out B6.out⟩
   ·
    cases e2
open Go.Proofs.YtkgngggppcmpfaaGreat.X in
set_option maxHeartbeats 1600000 in
set_option maxRecDepth 100000 in
theorem Qi.calls (k:Nat) (A0:Option Addr) (c0:Nat) (l0:List Int) (a1:Int) (r1:Int) (r2:Bool) (w:World) (hr0:Kd.C (Kd.int .i64) w A0 l0.length l0) (hc0:l0.length≤c0) (h:Qi.f k l0 a1=some (r1,r2)):
 Calls Tryz.prog 69 #[.slice A0 l0.length c0, .int .i64 a1] w fun e w'=>e= .returned (.tuple #[.int .i64 r1, .bool r2])∧Below w.heap.size w w':=by
 have HR:=Zk hr0;have HC:=Zk hc0;clear hr0 hc0;unfold Qi.f at h;obtain ⟨t,ht,h⟩:=Option.bind_eq_some_iff.mp h;have HT:=Zk ht;clear ht;cases t with
 |false=>
  have h':some (0,false)=some (r1,r2):=h;injection h' with h'
  injection h' with h1 h2
  subst h1 h2;clear h;go_enter Tryz.func69,Tryz.ntmps69;go_wp2_with fail;refine (Qde.calls A0 c0 l0 false _ (Kd.C_alloc (Kd.C_alloc HR.out _) _) HC.out HT.out).mono ?_;rintro e w1 ⟨rfl,hb⟩;have B1:=Zk (Qbp (Qj (Qj (Below.refl w.heap.size w) _) _) hb);clear hb;go_wp2
  go_ret2
  exact ⟨rfl,B1.out⟩
 |true=>
  rw [if_pos rfl] at h;obtain ⟨b,hb,h⟩:=Option.bind_eq_some_iff.mp h;have HW:=Zk hb;clear hb;cases b with
  |false=>
   have h':some (0,false)=some (r1,r2):=h;injection h' with h'
   injection h' with h1 h2
   subst h1 h2;clear h;go_enter Tryz.func69,Tryz.ntmps69;go_wp2_with fail;refine (Qde.calls A0 c0 l0 true _ (Kd.C_alloc (Kd.C_alloc HR.out _) _) HC.out HT.out).mono ?_;rintro e w1 ⟨rfl,hb⟩;have c2:=Zk (show w1.cell? ⟨w.heap.size+1,0,none⟩=some (.int .i64 a1) from (hb.cell (p:=⟨w.heap.size+1,0,none⟩) (by simp)).trans (by simp));have B1:=Zk (Qbp (Qj (Qj (Below.refl w.heap.size w) _) _) hb);clear hb;have s2:=c2.out;go_wp2_with (go_at_call 159;(with_reducible refine (Qbv.calls a1 0 60 false _ HW.out).mono ?_);rintro e w2 ⟨rfl,⟨nd,rfl⟩⟩)
   go_ret2
   exact ⟨rfl,Qk B1.out _⟩
  |true=>
   rw [if_pos rfl] at h
   split at h
   ·
    rename_i hc;exact Qi.main k A0 c0 l0 a1 r1 r2 w HR HC HT HW hc.1 ⟨hc.2.1⟩ ⟨hc.2.2⟩ ⟨h⟩
   ·
    cases h
def Qbh.p (n:Int):Bool:= !(decide (1≤n) && decide (n≤60))
def Qbh.g (r n:Int):Int:=if Int.tmod r n=0 then 1 else 0
def Qbh.ok (l0 l1:List Int):Bool:=(List.range l0.length).all fun i=>rd l0 (i:Int)==Go.Proofs.YtkgngggppcmpfaaGreat.X.sumF (Qbh.g (i:Int)) l1
def Qbh.f (l0:List Int) (l1:List Int):Option (Bool × Bool):=(Qde.f l0).bind fun t=>if t=true then (if (l1.length:Int)>1000 then some (false,false) else if l1.any Qbh.p=true then some (false,false) else if l0.length≤9223372036854775806 then some (Qbh.ok l0 l1,true) else none) else some (false,false)
open Go.Proofs.YtkgngggppcmpfaaGreat.X in
set_option maxHeartbeats 400000 in
theorem Qbh.lit1 (n:Int) (w:World):Fv Tryz.prog 230 #[] #[.int .i64 n] (.bool (Qbh.p n)) w:=by
 intro W hb;obtain ⟨b,HW,hp⟩: ∃ b,Qdp.f n=some b∧Qbh.p n= !b:=⟨decide (1≤n) && decide (n≤60),by unfold Qdp.f Qbv.f;by_cases h:1≤n<;>simp [h],rfl⟩
 rw [hp];have HA:=Zk HW;clear HW hp;go_enter Tryz.func230,Tryz.ntmps230;go_wp2_with (go_at_call 217;(with_reducible refine (Qdp.calls n b _ HA.out).mono ?_);rintro e w' ⟨rfl,⟨nd,rfl⟩⟩)
 go_ret
 exact ⟨rfl,Qk (Below.refl _ _) _⟩
open Go.Proofs.YtkgngggppcmpfaaGreat.X in
set_option maxHeartbeats 400000 in
theorem Qbh.lit2 (r n:Int) (B:Nat) (w:World) (hB:B<w.heap.size) (hc:w.cell? ⟨B,0,none⟩=some (.int .i64 r)) (hn:n≠0):
 Fv Tryz.prog 231 #[.pointer (some ⟨B,0,none⟩)] #[.int .i64 n] (.int .i64 (Qbh.g r n)) w:=by
 intro W hb;have hc':W.cell? ⟨B,0,none⟩=some (.int .i64 r):=(hb.cell (p:=⟨B,0,none⟩) hB).trans hc;unfold Qbh.g;clear hc hB hb
 by_cases hz:Int.tmod r n=0
 ·
  rw [if_pos hz];go_enter Tryz.func231,Tryz.ntmps231;go_wp2
  go_ret
  exact ⟨rfl,by first|exact Below.refl _ _|exact Qk (Below.refl _ _) _⟩
 ·
  rw [if_neg hz];go_enter Tryz.func231,Tryz.ntmps231;go_wp2
  go_ret
  exact ⟨rfl,by first|exact Below.refl _ _|exact Qk (Below.refl _ _) _⟩
open Go.Proofs.YtkgngggppcmpfaaGreat.X in
set_option maxHeartbeats 1600000 in
set_option maxRecDepth 100000 in
theorem Qbh.main (A0:Option Addr) (c0:Nat) (l0:List Int) (A1:Option Addr) (c1:Nat) (l1:List Int) (r1:Bool) (w:World) (HR:Z0 (Kd.C (Kd.int .i64) w A0 l0.length l0)) (HC:Z0 (l0.length≤c0)) (HR1:Z0 (Kd.C (Kd.int .i64) w A1 l1.length l1))
 (HT:Z0 (Qde.f l0=some true)) (HL:Z0 (l1.length≤9223372036854775806)) (hm1:decide ((l1.length:Int)>1000)=false) (hm2:decide ((1000:Int)<(l1.length:Int))=false) (AN:Z0 (false=l1.any Qbh.p)) (L0:Z0 (l0.length≤9223372036854775806)) (OK:Z0 (Qbh.ok l0 l1=r1)) (NZ:Z0 (∀ x,x ∈ l1→x≠0)):
 Calls Tryz.prog 76 #[.slice A0 l0.length c0, .slice A1 l1.length c1] w fun e w'=>e= .returned (.tuple #[.bool r1, .bool true])∧Below w.heap.size w w':=by
 go_enter Tryz.func76,Tryz.ntmps76;go_wp2_with fail;refine (Qde.calls _ _ l0 true _ HR.out HC.out HT.out).mono ?_;rintro e w1 ⟨rfl,hb⟩;have B1:=Zk hb;clear hb;go_wp2_with fail;refine (Qfa.calls A1 c1 l1 230 #[] Qbh.p _ (Qet Tryz.func230 (by kernel_rfl) rfl) (Kd.C_below HR1.out B1.out) HL.out (fun x _=>Qbh.lit1 x _)).mono ?_;rintro e w2 ⟨rfl,hb⟩;rw [←AN.out];have B2:=Zk (Qbp B1.out hb);clear hb;go_wp2
 go_loopw [22] (fun v22 wr=> ∃ k:Nat,k≤l0.length∧v22= .int .i64 k∧Z0 (∀ i:Nat,i<k→rd l0 (i:Int)=sumF (Qbh.g (i:Int)) l1)∧Z0 (Below w.heap.size w wr)) (fun v22 _=>l0.length - (intOf v22).toNat)
 case atStart=>exact ⟨0,Nat.zero_le _,rfl,⟨fun i hi=>absurd hi (Nat.not_lt_zero _)⟩,⟨B2.out⟩⟩
 case round=>
  obtain ⟨k,hk,rfl,HI,HB⟩:=hrel
  by_cases hlt:k<l0.length
  ·
   have p1:0≤((k:Nat):Int):=by omega
   have q1:((k:Nat):Int)<(l0.length:Int):=by omega
   obtain ⟨ad,e1,hx⟩:=Kd.at_int (Kd.C_below HR.out HB.out) k p1 q1;rw [Int.toNat_natCast] at hx;cases e1;obtain ⟨u,hu⟩: ∃ u,u=rd l0 (k:Int):=⟨_,rfl⟩
   rw [←hu] at hx;have HU:=Zk hu;clear hu;go_wp2_with fail;refine (Qgo.calls A1 c1 l1 231 #[.pointer (some ⟨wr.heap.size,0,none⟩)] (Qbh.g (k:Int)) _ (Qet Tryz.func231 (by kernel_rfl) rfl) (Kd.C_alloc (Kd.C_below HR1.out HB.out) _) HL.out (fun x hx2=>Qbh.lit2 (k:Int) x _ _ (by simp) (by simp) (NZ.out x hx2))).mono ?_;rintro e w3 ⟨rfl,hb⟩;have B3:=Zk (Qbp (Qj HB.out _) hb);clear hb;obtain ⟨s,hs⟩: ∃ s,s=sumF (Qbh.g (k:Int)) l1:=⟨_,rfl⟩
   rw [←hs];have HS:=Zk hs;clear hs
   by_cases hq:u=s
   ·
    subst hq;have e2:wrap64 ((k:Int)+1)=((k+1:Nat):Int):=by have hl0:=L0.out;unfold wrap64;omega
    go_wp2
    (try simp only [e2])
    clear e2;go_roundw
    case rel=>exact ⟨k+1,by omega,by first|rfl|go_num,⟨fun i hi=>by
     by_cases c:i=k
     ·
      subst c;rw [←HU.out,HS.out]
     ·
      exact HI.out i (by omega)⟩,⟨B3.out⟩⟩
    case measure=>exact (Nat.sub_lt_sub_left (by omega) (Nat.lt_succ_self k):l0.length - (k+1)<l0.length - k)
   ·
    have hq1:decide (u=s)=false:=decide_eq_false hq;have hq2:(u==s)=false:=beq_eq_false_iff_ne.mpr hq;have hq3:(u !=s)=true:=by rw [bne,hq2];rfl
    have HQ:=Zk hq;clear hq;go_wp2
    go_ret2
    refine ⟨?_,B3.out⟩;have e1:r1=false:=by
     rw [←OK.out];unfold Qbh.ok;rw [List.all_eq_false];exact ⟨k,List.mem_range.mpr hlt,by rw [←HU.out,←HS.out,hq2];simp⟩
    rw [e1];rfl
  ·
   go_wp2
   go_ret2
   refine ⟨?_,HB.out⟩;have e1:r1=true:=by
    rw [←OK.out];unfold Qbh.ok;rw [List.all_eq_true];intro i hi;rw [HI.out i (by have:=List.mem_range.mp hi;omega),beq_self_eq_true]
   rw [e1];rfl
open Go.Proofs.YtkgngggppcmpfaaGreat.X in
set_option maxHeartbeats 1600000 in
set_option maxRecDepth 100000 in
theorem Qbh.calls (A0:Option Addr) (c0:Nat) (l0:List Int) (A1:Option Addr) (c1:Nat) (l1:List Int) (r1:Bool) (r2:Bool) (w:World) (hr0:Kd.C (Kd.int .i64) w A0 l0.length l0) (hc0:l0.length≤c0) (hr1:Kd.C (Kd.int .i64) w A1 l1.length l1) (hc1:l1.length≤c1) (h:Qbh.f l0 l1=some (r1,r2)):
 Calls Tryz.prog 76 #[.slice A0 l0.length c0, .slice A1 l1.length c1] w fun e w'=>e= .returned (.tuple #[.bool r1, .bool r2])∧Below w.heap.size w w':=by
 have HR:=Zk hr0;have HC:=Zk hc0;have HR1:=Zk hr1;clear hr0 hc0 hr1 hc1;unfold Qbh.f at h;obtain ⟨t,ht,h⟩:=Option.bind_eq_some_iff.mp h;have HT:=Zk ht;clear ht;cases t with
 |false=>
  have h':some (false,false)=some (r1,r2):=h;injection h' with h'
  injection h' with h1 h2
  subst h1 h2;clear h;go_enter Tryz.func76,Tryz.ntmps76;go_wp2_with (go_at_call 218;(with_reducible refine (Qde.calls _ _ l0 false _ HR.out HC.out HT.out).mono ?_);rintro e w1 ⟨rfl,hb⟩)
  go_ret2
  exact ⟨rfl,hb⟩
 |true=>
  rw [if_pos rfl] at h
  by_cases hm:(l1.length:Int)>1000
  ·
   rw [if_pos hm] at h;injection h with h
   injection h with h1 h2
   subst h1 h2;have hm1:decide ((l1.length:Int)>1000)=true:=decide_eq_true hm;have hm2:decide ((1000:Int)<(l1.length:Int))=true:=decide_eq_true hm;clear hm;go_enter Tryz.func76,Tryz.ntmps76;go_wp2_with (go_at_call 218;(with_reducible refine (Qde.calls _ _ l0 true _ HR.out HC.out HT.out).mono ?_);rintro e w1 ⟨rfl,hb⟩)
   go_ret2
   exact ⟨rfl,hb⟩
  ·
   rw [if_neg hm] at h;have HL:=Zk (show l1.length≤9223372036854775806 by omega);have hm1:decide ((l1.length:Int)>1000)=false:=decide_eq_false hm;have hm2:decide ((1000:Int)<(l1.length:Int))=false:=decide_eq_false hm;clear hm;obtain ⟨an,han⟩: ∃ an,an=l1.any Qbh.p:=⟨_,rfl⟩
   have AN:=Zk han;rw [←han] at h;clear han;cases an with
   |true=>
    rw [if_pos rfl] at h;injection h with h
    injection h with h1 h2
    subst h1 h2;go_enter Tryz.func76,Tryz.ntmps76;go_wp2_with fail;refine (Qde.calls _ _ l0 true _ HR.out HC.out HT.out).mono ?_;rintro e w1 ⟨rfl,hb⟩;have B1:=Zk hb;clear hb;go_wp2_with fail;refine (Qfa.calls A1 c1 l1 230 #[] Qbh.p _ (Qet Tryz.func230 (by kernel_rfl) rfl) (Kd.C_below HR1.out B1.out) HL.out (fun x _=>Qbh.lit1 x _)).mono ?_;rintro e w2 ⟨rfl,hb⟩;rw [←AN.out];have B2:=Zk (Qbp B1.out hb);clear hb;go_wp2
    go_ret2
    exact ⟨rfl,B2.out⟩
   |false=>
    rw [if_neg (by simp)] at h
    split at h
    ·
     rename_i hl0;injection h with h
     injection h with h1 h2
     have L0:=Zk hl0;have OK:=Zk h1;subst h2;clear h1 hl0;have NZ:=Zk (show ∀ x,x ∈ l1→x≠0 from fun x hx e=>by
      have:=AN.out;rw [eq_comm,List.any_eq_false] at this;have h3:=this x hx;rw [e] at h3;exact h3 rfl)
     exact Qbh.main A0 c0 l0 A1 c1 l1 r1 w HR HC HR1 HT HL hm1 hm2 AN L0 OK NZ
    ·
     exact absurd h (by simp)
end Go.Proofs.YtkgngggppcmpfaaGreat.L
end
section
namespace Go.Proofs.YtkgngggppcmpfaaGreat.L
open Go.RowKit Go.Proofs.YtkgngggppcmpfaaGreatW.PrintWords Go.Proofs.YtkgngggppcmpfaaGreatW.PrintLast Go.Proofs.YtkgngggppcmpfaaGreatW.PrintMore Go.Proofs.YtkgngggppcmpfaaGreat.X
attribute [local go_sem] Qy Q0 Qbb Qbc Qp Qq Qz Q1
set_option linter.unusedVariables false
set_option linter.unusedSimpArgs false
def Qdm.f (a0:Int) (a1:Int) (a2:Int):Option (Bool):=(Qbv.f a0 1 a2).bind fun t121=>(if t121=true then ((Qbv.f a1 1 a2).bind fun t122=>(if t122=true then (some (decide ((wrap64 (a0*a1))≤a2))) else (some false))) else (some false))
set_option maxHeartbeats 8000000 in
set_option maxRecDepth 100000 in
theorem Qdm.calls (a0:Int) (a1:Int) (a2:Int) (r:Bool) (w:World) (h:Qdm.f a0 a1 a2=some r):
 Calls Tryz.prog 206 #[.int .i64 a0, .int .i64 a1, .int .i64 a2] w fun e w'=>e= .returned (.bool r)∧Drawn0 w w':=by
 have H:((Qbv.f a0 1 a2).bind fun t121=>(if t121=true then ((Qbv.f a1 1 a2).bind fun t122=>(if t122=true then (some (decide ((wrap64 (a0*a1))≤a2))) else (some false))) else (some false)))=some r:=h;clear h;obtain ⟨t121,A4,H⟩:=bs H;(try dsimp only at H)
 by_cases c5:t121=true
 ·
  subst c5;rw [if_pos rfl] at H;obtain ⟨t122,A6,H⟩:=bs H;(try dsimp only at H)
  by_cases c7:t122=true
  ·
   subst c7;rw [if_pos rfl] at H;obtain rfl:=Option.some.inj H;go_enter Tryz.func206,Tryz.ntmps206;go_wp2_with (first|(refine gA (some 9) Tryz.func159 #[.int .i64 a0, .int .i64 1, .int .i64 a2] ?_;(with_reducible refine (Qbv.calls a0 1 a2 true _ A4.out).mono ?_);rintro e w' ⟨rfl,⟨nd,rfl⟩⟩;refine ⟨_,rfl,?_⟩)|(go_at_call 159;(with_reducible refine (Qbv.calls a1 1 a2 true _ A6.out).mono ?_);rintro e w' ⟨rfl,⟨nd,rfl⟩⟩))
   go_ret
   exact ⟨by first|rfl|(simp;done)|(simp [*];done),by repeat (first|exact Drawn0.refl _|apply Drawn0.step)⟩
  ·
   replace c7:=Bool.eq_false_iff.mpr c7;subst c7;rw [if_neg (show ¬ (false=true) by decide)] at H;obtain rfl:=Option.some.inj H;go_enter Tryz.func206,Tryz.ntmps206;go_wp2_with (first|(refine gA (some 9) Tryz.func159 #[.int .i64 a0, .int .i64 1, .int .i64 a2] ?_;(with_reducible refine (Qbv.calls a0 1 a2 true _ A4.out).mono ?_);rintro e w' ⟨rfl,⟨nd,rfl⟩⟩;refine ⟨_,rfl,?_⟩)|(go_at_call 159;(with_reducible refine (Qbv.calls a1 1 a2 false _ A6.out).mono ?_);rintro e w' ⟨rfl,⟨nd,rfl⟩⟩))
   go_ret
   exact ⟨by first|rfl|(simp;done)|(simp [*];done),by repeat (first|exact Drawn0.refl _|apply Drawn0.step)⟩
 ·
  replace c5:=Bool.eq_false_iff.mpr c5;subst c5;rw [if_neg (show ¬ (false=true) by decide)] at H;obtain rfl:=Option.some.inj H;go_enter Tryz.func206,Tryz.ntmps206;go_wp2_with (first|(refine gA (some 9) Tryz.func159 #[.int .i64 a0, .int .i64 1, .int .i64 a2] ?_;(with_reducible refine (Qbv.calls a0 1 a2 false _ A4.out).mono ?_);rintro e w' ⟨rfl,⟨nd,rfl⟩⟩;refine ⟨_,rfl,?_⟩))
  go_ret
  exact ⟨by first|rfl|(simp;done)|(simp [*];done),by repeat (first|exact Drawn0.refl _|apply Drawn0.step)⟩
end Go.Proofs.YtkgngggppcmpfaaGreat.L
end
section
namespace Go.Proofs.YtkgngggppcmpfaaGreat.L
open Go.RowKit Go.Proofs.YtkgngggppcmpfaaGreatW.PrintWords Go.Proofs.YtkgngggppcmpfaaGreatW.PrintLast Go.Proofs.YtkgngggppcmpfaaGreatW.PrintMore
attribute [local go_sem] Qy Q0 Qbb Qbc Qp Qq Qz Q1
set_option linter.unusedVariables false
set_option linter.unusedSimpArgs false
class Fn2 where
 p:Int→Int→Option Bool
def Qf2.f [Fn2] (a0:Int) (a1:Int):Option Bool:=Fn2.p a0 a1
end Go.Proofs.YtkgngggppcmpfaaGreat.L
end
section
namespace Go.Proofs.YtkgngggppcmpfaaGreat.L
open Go.RowKit Go.Proofs.YtkgngggppcmpfaaGreatW.PrintWords Go.Proofs.YtkgngggppcmpfaaGreatW.PrintLast Go.Proofs.YtkgngggppcmpfaaGreatW.PrintMore Go.Proofs.YtkgngggppcmpfaaGreat.X
attribute [local go_sem] Qy Q0 Qbb Qbc Qp Qq Qz Q1
set_option linter.unusedVariables false
variable [Fn2]
set_option linter.unusedSimpArgs false
mutual
def Qb4.l0:Nat→Int→Int→List Int→Option (List Int)
 |0,_,_,_=>none
 |k+1,x11,x12,x128000=>if x12<x11 then (Qb4.l1 k x12 x11 x12 x12 0 x128000) else (some x128000)
def Qb4.l1:Nat→Int→Int→Int→Int→Int→List Int→Option (List Int)
 |0,_,_,_,_,_,_=>none
 |k+1,x6,x11,x12,x15,x16,x128000=>if x16<x15 then ((Qf2.f x16 x6).bind fun t128=>(if t128=true then (if 0≤x6 then (if x6<(x128000.length:Int) then (if 0≤x16 then (Qb4.l1 k x6 x11 x12 x15 (wrap64 (x16+1)) (x128000.set (x6:Int).toNat (Go.bits .or .i64 (rd x128000 x6) (shl .i64 1 x16)))) else (none)) else (none)) else (none)) else (Qb4.l1 k x6 x11 x12 x15 (wrap64 (x16+1)) x128000))) else (Qb4.l0 k x11 (wrap64 (x12+1)) x128000)
end
def Qb4.f (k:Nat) (a0:Int) (a1:Int):Option (List Int):=if 0≤a0 then (if (a0:Int).toNat≤35184372088832 then (Qb4.l0 k a0 0 (List.replicate (a0:Int).toNat 0)) else (none)) else (none)
theorem Qb4.mono_l: ∀ k,(∀ y0 y1 y2,LeO (Qb4.l0 k y0 y1 y2) (Qb4.l0 (k+1) y0 y1 y2))∧(∀ y0 y1 y2 y3 y4 y5,LeO (Qb4.l1 k y0 y1 y2 y3 y4 y5) (Qb4.l1 (k+1) y0 y1 y2 y3 y4 y5))
 |0=>⟨fun _ _ _ r h=>by simp [Qb4.l0] at h,fun _ _ _ _ _ _ r h=>by simp [Qb4.l1] at h⟩
 |k+1=>by
  obtain ⟨ih0,ih1⟩:=Qb4.mono_l k;refine ⟨?_,?_⟩
  ·
   intro y0 y1 y2;unfold Qb4.l0
   repeat' first
   |(with_reducible exact ih0 _ _ _)
   |(with_reducible exact ih1 _ _ _ _ _ _)
   |(with_reducible exact LeO.refl _)
   |(with_reducible exact LeO.none _)
   |(with_reducible refine LeO.ite ?_ ?_)
   |(with_reducible refine LeO.bind ?_ (fun _=> ?_))
   |exact ih0 _ _ _
   |exact ih1 _ _ _ _ _ _
   |exact LeO.none _
   |refine LeO.ite ?_ ?_
   |refine LeO.bind ?_ (fun _=> ?_)
  ·
   intro y0 y1 y2 y3 y4 y5;unfold Qb4.l1
   repeat' first
   |(with_reducible exact ih0 _ _ _)
   |(with_reducible exact ih1 _ _ _ _ _ _)
   |(with_reducible exact LeO.refl _)
   |(with_reducible exact LeO.none _)
   |(with_reducible refine LeO.ite ?_ ?_)
   |(with_reducible refine LeO.bind ?_ (fun _=> ?_))
   |exact ih0 _ _ _
   |exact ih1 _ _ _ _ _ _
   |exact LeO.none _
   |refine LeO.ite ?_ ?_
   |refine LeO.bind ?_ (fun _=> ?_)
theorem Qb4.mono: ∀ a0 a1 k,LeO (Qb4.f k a0 a1) (Qb4.f (k+1) a0 a1):=by
 intro a0 a1 k;obtain ⟨ih0,ih1⟩:=Qb4.mono_l k;unfold Qb4.f
 repeat' first
  |(with_reducible exact ih0 _ _ _)
  |(with_reducible exact ih1 _ _ _ _ _ _)
  |(with_reducible exact LeO.refl _)
  |(with_reducible exact LeO.none _)
  |(with_reducible refine LeO.ite ?_ ?_)
  |(with_reducible refine LeO.bind ?_ (fun _=> ?_))
  |exact ih0 _ _ _
  |exact ih1 _ _ _ _ _ _
  |exact LeO.none _
  |refine LeO.ite ?_ ?_
  |refine LeO.bind ?_ (fun _=> ?_)
def Qb4.T9:Bool × List (List Nat × List Nat):=(true,[([],[]),([0],[0]),([],[]),([1,2],[1,2]),([3],[3]),([],[]),([5],[5]),([4,6],[4,6]),([1,2,0,1,2,3,4,5,6,7],[1,2]),([8,7,0,1,2,3,4,5,6,7],[7,8])])
def Qb4.B9:List Nat:= [0,1,0,7,15,0,32,127,255,511]
omit [Fn2] in
theorem Qb4.tab9:rtab .any (Qfz Tryz.f263 9)=Qb4.T9:=by kernel_rfl
omit [Fn2] in
theorem Qb4.bits9:Qen Qb4.T9.2 Qb4.B9=true:=by kernel_rfl
set_option maxHeartbeats 8000000 in
set_option maxRecDepth 100000 in
open Go.Proofs.YtkgngggppcmpfaaGreat.X in
theorem Qb4.calls (gF:Nat) (lbF:Array Value) (eg: ∀ args w,(callFunc gF args).run Tryz.prog w= .ok (.enter gF args) w) (k:Nat) (a0:Int) (a1:Int) (r:List Int) (w:World) (hpF: ∀ x0_ x1_ b,Qf2.f x0_ x1_=some b→Fv Tryz.prog gF lbF #[.int .i64 x0_, .int .i64 x1_] (.bool b) w) (h:Qb4.f k a0 a1=some r):
 Calls Tryz.prog 263 #[.int .i64 a0, .func (.func gF) #[] lbF] w fun e w'=> ∃ v0_:Value,e= .returned (.agg #[v0_])∧Kd.R (Kd.int .i64) 3 w' w.heap.size (fun _=>True) v0_ r∧Below w.heap.size w w':=by
 have HP:=Zk hpF;clear hpF;have hu26:=Tryz.underlying26;have HB:=Zk (Below.refl w.heap.size w);have H:(if 0≤a0 then (if (a0:Int).toNat≤35184372088832 then (Qb4.l0 k a0 0 (List.replicate (a0:Int).toNat 0)) else (none)) else (none))=some r:=h;clear h
 by_cases c3:0≤a0
 ·
  rw [if_pos c3] at H;have c3b0:=eq_true c3;have c3b1:=decide_eq_true c3;clear c3
  by_cases c4:(a0:Int).toNat≤35184372088832
  ·
   rw [if_pos c4] at H;have c4b0:=eq_true c4;have c4b1:=decide_eq_true c4;clear c4;obtain ⟨y124,hy124⟩: ∃ y_:List Int,y_=(List.replicate (a0:Int).toNat 0):=⟨_,rfl⟩
   replace H:(Qb4.l0 k a0 0 y124)=some r:=by first|(rw [hy124];with_reducible exact H)|(have H2_:=(Option.bind_some _ _).symm.trans H;rw [hy124];with_reducible exact H2_)|(have H2_:=(Option.bind_some _ _).symm.trans H;with_reducible exact H2_)|with_reducible exact H|(rw [hy124];exact H)|exact H
   have Ny124:=Zk hy124;clear hy124;have H':=Zk H;clear H;go_enter Tryz.func263,Tryz.ntmps263;go_wp2_with (first|(refine bE (N:=4) (cs:= #[.slice none 0 0]) (t:=26) ?_;intro gb123 hg w5 hbox hb;have BK123:=Zk (hbox);have GW123:=Zk ((by rw [hg];exact (Qh (uB HB)):w.heap.size≤gb123));have GE123:=GW123;replace HB:=Zk (Qb (uB HB) hb);clear hb hbox hg)|((with_reducible refine Qu (N:=9) rfl ?_);refine Kd.R_make (Kd.int .i64) _ 3 rfl (N:=9) rfl 24 _ _ rfl a0 rfl rfl Tryz.underlying24 (.int .i64 0) 8 Qdq rfl (by decide) (by omega) 0 (ok:=fun _=>True) (okp:=fun _=>True) rfl (fun _ hk=>hk) trivial (of_decide_eq_true (by first|(with_reducible assumption)|assumption)) (Nat.le_trans (Nat.mul_le_mul_right _ (of_decide_eq_true (by first|(with_reducible assumption)|assumption):a0.toNat≤35184372088832)) (by omega)) (Below.refl _ _) (Nat.le_refl _) ?_;intro v125 w6 ho7 hb hg_ hnew_;clear hg_ hnew_;(first|rw [←Ny124.out] at ho7|(simp only [Int.reduceToNat] at ho7;rw [←Ny124.out] at ho7));have HO126:=Zk (Kd.R_lower ho7 (Qh (vB HB)));replace BK123:=Zk (Qbg (uK BK123) hb);replace HB:=Zk (Qb (vB HB) hb);clear hb ho7;obtain ⟨Ao8,co8,eo8⟩:=Kd.R_slice HO126.out;subst eo8)|(refine bE (N:=5) (cs:= #[.slice none 0 0]) (t:=26) ?_;intro gb127 hg w9 hbox hb;replace HO126:=Zk (Kd.R_below (uR HO126) hb);have BK127:=Zk (hbox);have GW127:=Zk ((by rw [hg];exact (Qh (vB HB)):w.heap.size≤gb127));have GE127:=GW127;replace HB:=Zk (Qb (vB HB) hb);have NB123_127:=Zk ((by rw [hg];exact Nat.ne_of_lt (Qd8 (uK BK123)):gb123≠gb127));have NB127_123:=Zk ((by rw [hg];exact Nat.ne_of_gt (Qd8 (uK BK123)):gb127≠gb123));replace BK123:=Zk (Qbg (uK BK123) hb);clear hb hbox hg;have hnb10:=NB127_123.out;have hnc10:=NB123_127.out;have hcz11_0:=bC BK127;have hfz11_0:=Q6 BK127.out 0))
   go_loopg [12] k (fun kq v12 w'=> ∃ (x12_1:Int) (x128000_1:List Int) (u128000:Value),v12= .int .i64 x12_1∧Z0 (Qb4.l0 kq a0 x12_1 x128000_1=some r)∧Z0 (kq≤k)∧Z0 (Kd.R (Kd.int .i64) 3 w' w.heap.size (fun _=>True) u128000 x128000_1)∧Z0 (w'.heap[gb123]? =some (.cells #[(.slice none 0 0)] 26 (0,0)))∧Z0 (w'.heap[gb127]? =some (.cells #[u128000] 26 (0,0)))∧Z0 (Below w.heap.size w w'))
   case atStart=>exact ⟨(0),(y124),(.slice Ao8 y124.length co8),(by first|rfl|(simp;done)|(simp [*];done)),H',⟨Nat.le_refl _⟩,⟨by (with_reducible repeat (first|apply Kd.R_alloc|apply Kd.R_drewN|apply Kd.R_drew));exact Kd.R_mono (Kd.R_far (p:=⟨gb127,0,none⟩) (Kd.R_types HO126.out BK127.out (by decide)) (fun _ hk=>hk.2) (.slice Ao8 y124.length co8)) (fun _ hk=>trivial)⟩,⟨kF⟩,⟨bP⟩,⟨(vB HB)⟩⟩
   case round=>
    clear H'
    try clear c3b0 c3b1 c4b0 c4b1 hcz11_0 hfz11_0
    obtain ⟨x12_1,x128000_1,u128000,rfl,HA,HK1,HO_128000,BK123,BK127,HB⟩:=hrel;cases gk with
    |zero=>exact absurd HA.out (by simp [Qb4.l0])
    |succ k1=>
     have H:=HA.out;clear HA;simp only [Qb4.l0] at H
     by_cases c12:x12_1<a0
     ·
      rw [if_pos c12] at H;have c12b0:=decide_eq_true c12;clear c12;have H':=Zk H;clear H;go_wp2
      go_loopg [16] k1 (fun kq v16 w'=> ∃ (x16_2:Int) (x128000_2:List Int) (u128000:Value),v16= .int .i64 x16_2∧Z0 (Qb4.l1 kq x12_1 a0 x12_1 x12_1 x16_2 x128000_2=some r)∧Z0 (kq≤k1)∧Z0 (Kd.R (Kd.int .i64) 3 w' w.heap.size (fun _=>True) u128000 x128000_2)∧Z0 (w'.heap[gb123]? =some (.cells #[(.slice none 0 0)] 26 (0,0)))∧Z0 (w'.heap[gb127]? =some (.cells #[u128000] 26 (0,0)))∧Z0 (Below w.heap.size w w'))
      case atStart=>exact ⟨(0),(x128000_1),(u128000),(by first|rfl|(simp;done)|(simp [*];done)),H',⟨Nat.le_refl _⟩,⟨uR HO_128000⟩,⟨uK BK123⟩,⟨uK BK127⟩,⟨(vB HB)⟩⟩
      case round=>
       clear H'
       try clear c12b0
       obtain ⟨x16_2,x128000_2,u128000,rfl,HA,HK2,HO_128000,BK123,BK127,HB⟩:=hrel;cases gk with
       |zero=>exact absurd HA.out (by simp [Qb4.l1])
       |succ k2=>
        have H:=HA.out;clear HA;simp only [Qb4.l1] at H
        by_cases c13:x16_2<x12_1
        ·
         rw [if_pos c13] at H;have c13b0:=decide_eq_true c13;clear c13;obtain ⟨t128,A14,H⟩:=bs H;(try dsimp only at H)
         by_cases c15:t128=true
         ·
          subst c15;rw [if_pos rfl] at H
          by_cases c16:0≤x12_1
          ·
           rw [if_pos c16] at H;have c16b0:=decide_eq_true c16;clear c16
           by_cases c17:x12_1<(x128000_2.length:Int)
           ·
            rw [if_pos c17] at H;have c17b0:=decide_eq_true c17;clear c17
            by_cases c18:0≤x16_2
            ·
             rw [if_pos c18] at H;have c18b0:=eq_true c18;have c18b1:=decide_eq_true c18;clear c18;obtain ⟨ji19,hji19⟩: ∃ j_:Int,(shl .i64 1 x16_2)=j_:=⟨_,rfl⟩
             replace H:(Qb4.l1 k2 x12_1 a0 x12_1 x12_1 (wrap64 (x16_2+1)) (x128000_2.set (x12_1:Int).toNat (Go.bits .or .i64 (rd x128000_2 x12_1) (ji19))))=some r:=by first|(rw [hji19] at H;exact H)|(simp only [hji19] at H ⊢;exact H)
             (try rw [hji19] at A14)
             have hji19_:(IntKind.i64.wrap (1*2 ^ min x16_2.toNat 64))=ji19:=hji19;have hji19z:x16_2≤64→(IntKind.i64.wrap (1*2 ^ x16_2.toNat))=ji19:=Qea hji19;have hji19u:(IntKind.i64.wrap (2 ^ min x16_2.toNat 64))=ji19:=by have h_:=hji19_;rw [Int.one_mul] at h_;exact h_
             have hji19v:x16_2≤64→(IntKind.i64.wrap (2 ^ x16_2.toNat))=ji19:=fun hle_=>by have h_:=hji19z hle_;rw [Int.one_mul] at h_;exact h_
             have hji19y:(wrap64 (1*2 ^ min x16_2.toNat 64))=ji19:=(Qcm _).symm.trans hji19_;have hji19x:x16_2≤64→(wrap64 (1*2 ^ x16_2.toNat))=ji19:=fun h_=>(Qcm _).symm.trans (hji19z h_)
             obtain ⟨y130,hy130⟩: ∃ y_:List Int,y_=(x128000_2.set (x12_1:Int).toNat (Go.bits .or .i64 (rd x128000_2 x12_1) (ji19))):=⟨_,rfl⟩
             replace H:(Qb4.l1 k2 x12_1 a0 x12_1 x12_1 (wrap64 (x16_2+1)) y130)=some r:=by first|(rw [hy130];with_reducible exact H)|(have H2_:=(Option.bind_some _ _).symm.trans H;rw [hy130];with_reducible exact H2_)|(have H2_:=(Option.bind_some _ _).symm.trans H;with_reducible exact H2_)|with_reducible exact H|(rw [hy130];exact H)|exact H
             have Ny130:=Zk hy130;clear hy130;have H':=Zk H;clear H
             try go_wp2_with (first|(go_at_fn gF;(with_reducible refine (Fv.calls (HP.out _ _ _ A14.out) (vB HB)).mono ?_);rintro e w21 ⟨rfl,hb⟩;replace HO_128000:=Zk (Kd.R_below (uR HO_128000) hb);replace BK123:=Zk (Qbg (uK BK123) hb);replace BK127:=Zk (Qbg (uK BK127) hb);replace HB:=Zk (Qb (vB HB) hb);(try clear hb)))
             replace HO_128000:=Zk (Kd.R_drew HO_128000.out);replace BK123:=Zk (Qc7 BK123.out);replace BK127:=Zk (Qc7 BK127.out);replace HB:=Zk (Q2 HB.out);obtain ⟨Ao23,co23,eo23⟩:=Kd.R_slice HO_128000.out
             (first|subst eo23|(injection eo23 with f1_ f2_ f3_;have f4_:=f1_.symm;have f5_:=f3_.symm;clear f1_ f2_ f3_;subst f4_;subst f5_))
             have p129:0≤(x12_1:Int):=of_decide_eq_true (by first|(with_reducible assumption)|assumption);have q129:x12_1<(x128000_2.length:Int):=of_decide_eq_true (by first|(with_reducible assumption)|assumption);obtain ⟨ad129,e129,hx129_0⟩:=Kd.at_int (Kd.R_reads' HO_128000.out).2.2 x12_1 p129 q129;cases e129;replace p129:=eq_true p129;replace q129:=eq_true q129;have p20:0≤(x12_1:Int):=of_decide_eq_true (by first|(with_reducible assumption)|assumption);have q20:(x12_1:Int)<((x128000_2.length:Int):Int):=of_decide_eq_true (by first|(with_reducible assumption)|assumption);obtain ⟨go20,co20,eo20,gb20,gl20,cl20,HG20⟩:=Kd.R_form HO_128000.out (by omega)
             (first|cases eo20|(injection eo20 with ea_ en_ ec_;(first|subst ea_|(injection ea_ with ea_;subst ea_));subst ec_;clear en_))
             have GB20:=Zk gb20;have GG20:=Zk HG20;clear gb20 gl20 HG20
             (first|simp only [Qd2] at hx129_0|skip)
             obtain ⟨hx20_0,hf20_0⟩:=Kd.R_celln 0 HO_128000.out (x12_1:Int) p20 q20;replace p20:=eq_true p20;replace q20:=eq_true q20;have HP24:=Kd.R_putn HO_128000.out (x12_1:Int) (Go.bits .or .i64 (rd x128000_2 x12_1) (ji19));rw [←Ny130.out] at HP24;have HQ24:=Zk HP24;clear HP24;refine sU (n:=10) (S:=fun w'=>w'.cell? ⟨gb127,0,none⟩=some (.slice (some ⟨go20,0,none⟩) x128000_2.length co23)∧w'.cell? ⟨go20,(x12_1).toNat,none⟩=some (.int .i64 (rd x128000_2 x12_1))) (ds:= [9]) ⟨(Qcs BK127.out 0).trans rfl,hx129_0⟩ (fun hHeld=> ?_);refine Qey Qb4.tab9 Qb4.bits9 (fun HT_ HW_=> ?_);generalize w21.drew=w22 at HO_128000 BK123 BK127 HB GG20 HQ24 hf20_0 hx129_0 hx20_0 hHeld ⊢;refine pU 0 23 ?_;refine pU 2 25 ?_;refine pU 5 28 ?_;refine pU 6 29 ?_;refine tW 1 24 hHeld ?_;refine pU 3 26 ?_;refine tW 4 27 hHeld ?_;refine pU 7 30 ?_;refine pU 8 31 ?_;refine lU 9 none fun K hK=> ?_
             refine sK ?_;refine hK.out _ _ ?_;clear hK K;refine dU ?_
             try go_wp2
             go_roundg k2
             case measure=>have:=HK1.out;have:=HK2.out;omega
             case rel=>exact ⟨(wrap64 (x16_2+1)),(y130),(.slice (some ⟨go20,0,none⟩) x128000_2.length co23),(by first|rfl|(simp;done)|(simp [*];done)),H',⟨by have:=HK1.out;have:=HK2.out;omega⟩,⟨uR HQ24⟩,⟨by (with_reducible repeat (first|refine Qcg ?_ _|refine Qc7 ?_|refine Qci ?_ _));refine Qd5 ?_ (by have h_:=Kd.R_ne HO_128000.out BK123.out (by decide);intro e_;exact h_ (by rw [e_];rfl)) _;(with_reducible repeat (first|refine Qcg ?_ _|refine Qc7 ?_|refine Qci ?_ _));exact BK123.out⟩,⟨by (with_reducible repeat (first|refine Qcg ?_ _|refine Qc7 ?_|refine Qci ?_ _));refine Qd5 ?_ (by have h_:=Kd.R_ne HO_128000.out BK127.out (by decide);intro e_;exact h_ (by rw [e_];rfl)) _;(with_reducible repeat (first|refine Qcg ?_ _|refine Qc7 ?_|refine Qci ?_ _));exact BK127.out⟩,⟨(vB HB)⟩⟩
            ·
             rw [if_neg c18] at H;exact absurd H (by simp)
           ·
            rw [if_neg c17] at H;exact absurd H (by simp)
          ·
           rw [if_neg c16] at H;exact absurd H (by simp)
         ·
          replace c15:=Bool.eq_false_iff.mpr c15;subst c15;rw [if_neg (show ¬ (false=true) by decide)] at H;have H':=Zk H;clear H;go_wp2_with (first|(go_at_fn gF;(with_reducible refine (Fv.calls (HP.out _ _ _ A14.out) (vB HB)).mono ?_);rintro e w25 ⟨rfl,hb⟩;replace HO_128000:=Zk (Kd.R_below (uR HO_128000) hb);replace BK123:=Zk (Qbg (uK BK123) hb);replace BK127:=Zk (Qbg (uK BK127) hb);replace HB:=Zk (Qb (vB HB) hb);(try clear hb)));go_roundg k2
          case measure=>have:=HK1.out;have:=HK2.out;omega
          case rel=>exact ⟨(wrap64 (x16_2+1)),(x128000_2),(u128000),(by first|rfl|(simp;done)|(simp [*];done)),H',⟨by have:=HK1.out;have:=HK2.out;omega⟩,⟨uR HO_128000⟩,⟨uK BK123⟩,⟨uK BK127⟩,⟨(vB HB)⟩⟩
        ·
         rw [if_neg c13] at H;have c13b0:=decide_eq_false c13;clear c13;have H':=Zk H;clear H;go_wp2;go_roundg k2
         case measure=>have:=HK1.out;have:=HK2.out;omega
         case rel=>exact ⟨(wrap64 (x12_1+1)),(x128000_2),(u128000),(by first|rfl|(simp;done)|(simp [*];done)),H',⟨by have:=HK1.out;have:=HK2.out;omega⟩,⟨uR HO_128000⟩,⟨uK BK123⟩,⟨uK BK127⟩,⟨(vB HB)⟩⟩
     ·
      rw [if_neg c12] at H;have c12b0:=decide_eq_false c12;clear c12;obtain rfl:=Option.some.inj H;have hnb26:=NB127_123.out;have hnc26:=NB123_127.out;have hcz27_0:=bC BK127;have hfz27_0:=Q6 BK127.out 0;obtain ⟨Ao28,co28,eo28⟩:=Kd.R_slice HO_128000.out;subst eo28;have hcz29_0:=bC BK123;have hfz29_0:=Q6 BK123.out 0;go_wp2;refine bodyPost_ret (results_cell_row rfl _ _ gb123 26 #[.slice Ao28 x128000_1.length co28] (0,0) _ rfl bP Tryz.underlying26 rfl (by kernel_rfl)) rfl ?_;exact ⟨_,by first|rfl|(simp [Qe,Qf] <;>rfl)|(simp [*,Qe,Qf] <;>rfl),by (with_reducible repeat (first|apply Kd.R_alloc|apply Kd.R_drewN|apply Kd.R_drew));exact Kd.R_mono (Kd.R_far (p:=⟨gb123,0,none⟩) (Kd.R_types HO_128000.out BK123.out (by decide)) (fun _ hk=>hk.2) (.slice Ao28 x128000_1.length co28)) (fun _ hk=>trivial),(vB HB)⟩
  ·
   rw [if_neg c4] at H;exact absurd H (by simp)
 ·
  rw [if_neg c3] at H;exact absurd H (by simp)
end Go.Proofs.YtkgngggppcmpfaaGreat.L
end
section
namespace Go.Proofs.YtkgngggppcmpfaaGreat.L
open Go.RowKit Go.Proofs.YtkgngggppcmpfaaGreatW.PrintWords Go.Proofs.YtkgngggppcmpfaaGreatW.PrintLast Go.Proofs.YtkgngggppcmpfaaGreatW.PrintMore
attribute [local go_sem] Qy Q0 Qbb Qbc Qp Qq Qz Q1
set_option linter.unusedVariables false
set_option linter.unusedSimpArgs false
@[reducible] def Qco.inst (b : Int) : Fn2 := ⟨fun j i => if b = 0 then none else some (decide (wrap64 (Int.tdiv j b) ≤ wrap64 (Int.tdiv i b)) && decide (Int.tmod j b ≤ Int.tmod i b))⟩
def Qco.f (k:Nat) (a0:Int) (a1:Int):Option (List Int):= @Qb4.f (Qco.inst a1) k (wrap64 (a0*a1)) 0
theorem Qco.laid (v:World) (o:Obj):(v.alloc o).heap[v.heap.size]? =some o:=by
 unfold World.alloc;simp
theorem Qco.mono: ∀ a0 a1 k,LeO (Qco.f k a0 a1) (Qco.f (k+1) a0 a1):=fun a0 a1 k=> @Qb4.mono (Qco.inst a1) _ _ k
open Go.Proofs.YtkgngggppcmpfaaGreat.X in
set_option maxHeartbeats 800000 in
set_option maxRecDepth 100000 in
theorem Qco.lit (b j i:Int) (t:Bool) (B:Nat) (w:World) (hB:B<w.heap.size) (hc:w.cell? ⟨B,0,none⟩=some (.int .i64 b)) (h:(Qco.inst b).p j i=some t):
 Fv Tryz.prog 306 #[.pointer (some ⟨B,0,none⟩)] #[.int .i64 j, .int .i64 i] (.bool t) w:=by
 intro W hb;have hc':W.cell? ⟨B,0,none⟩=some (.int .i64 b):=(hb.cell (p:=⟨B,0,none⟩) hB).trans hc;clear hc hB hb;unfold Qco.inst at h
 by_cases hb0:b=0
 ·
  simp only [hb0,if_true] at h;cases h
 ·
  have h':some (decide (wrap64 (Int.tdiv j b)≤wrap64 (Int.tdiv i b)) && decide (Int.tmod j b≤Int.tmod i b))=some t:=by simpa only [if_neg hb0] using h
  obtain rfl:=Option.some.inj h';clear h h'
  by_cases h1:wrap64 (Int.tdiv j b)≤wrap64 (Int.tdiv i b)
  ·
   have e1:decide (wrap64 (Int.tdiv j b)≤wrap64 (Int.tdiv i b))=true:=decide_eq_true h1;rw [e1,Bool.true_and];clear h1;go_enter Tryz.func306,Tryz.ntmps306;go_wp2
   repeat (go_quiet (fail);try go_wp2)
   go_ret
   exact ⟨rfl,by first|exact Below.refl _ _|exact Qk (Below.refl _ _) _⟩
  ·
   have e1:decide (wrap64 (Int.tdiv j b)≤wrap64 (Int.tdiv i b))=false:=decide_eq_false h1;rw [e1,Bool.false_and];clear h1;go_enter Tryz.func306,Tryz.ntmps306;go_wp2
   repeat (go_quiet (fail);try go_wp2)
   go_ret
   exact ⟨rfl,by first|exact Below.refl _ _|exact Qk (Below.refl _ _) _⟩
open Go.Proofs.YtkgngggppcmpfaaGreat.X in
set_option maxHeartbeats 800000 in
set_option maxRecDepth 100000 in
theorem Qco.calls (k:Nat) (a0:Int) (a1:Int) (r:List Int) (w:World) (h:Qco.f k a0 a1=some r):
 Calls Tryz.prog 229 #[.int .i64 a0, .int .i64 a1] w fun e w'=> ∃ v0_:Value,e= .returned (.agg #[v0_])∧Kd.R (Kd.int .i64) 3 w' w.heap.size (fun _=>True) v0_ r∧Below w.heap.size w w':=by
 unfold Qco.f at h;have HF:=Zk h;clear h;have hu:=Tryz.underlying26;go_enter Tryz.func229,Tryz.ntmps229;go_wp2_with fail;refine (@Qb4.calls (Qco.inst a1) 306 #[.pointer (some ⟨w.heap.size,0,none⟩)] (Qet Tryz.func306 (by kernel_rfl) rfl) k (wrap64 (a0*a1)) 0 r _ (fun j i b hb=>Qco.lit a1 j i b w.heap.size _ (by simp;omega) (by simp) hb) HF.out).mono ?_;rintro e w2 ⟨v0,rfl,hR,hb⟩;have hR2:=Kd.R_lower hR (show w.heap.size≤_ by simp;omega);have BK:=Zk (show w2.heap[w.heap.size+1]? =some (.cells #[.slice none 0 0] 26 (0,0)) from Qbg (g:=w.heap.size+1) (o:= .cells #[.slice none 0 0] 26 (0,0)) (by rw [show w.heap.size+1=(w.alloc (.cells #[.int .i64 a1] 3)).heap.size by simp];exact Qco.laid _ _) hb);have B2:=Zk (Qbp (Qj (Qj (Below.refl w.heap.size w) (.cells #[.int .i64 a1] 3)) (.cells #[.slice none 0 0] 26)) hb);obtain ⟨Ao,co,eo⟩:=Kd.R_slice hR2;subst eo;have HO:=Zk hR2;have hcz:w2.cell? ⟨w.heap.size+1,0,none⟩=some (.slice none 0 0):=(Qcs BK.out 0).trans rfl;have hfz:=Q6 BK.out 0;clear hR hR2 hb;go_wp2;refine bodyPost_ret (results_cell_row rfl _ _ (w.heap.size+1) 26 #[.slice Ao r.length co] (0,0) _ rfl (by (with_reducible repeat (first|refine Qcg ?_ _|refine Qc7 ?_|refine Qci ?_ _));refine Qgh (cs:= #[.slice none 0 0]) ?_ 0 _ rfl;(with_reducible repeat (first|refine Qcg ?_ _|refine Qc7 ?_|refine Qci ?_ _));exact BK.out) Tryz.underlying26 rfl (by kernel_rfl)) rfl ?_;exact ⟨_,by first|rfl|(simp;done),by (with_reducible repeat (first|apply Kd.R_alloc|apply Kd.R_drewN|apply Kd.R_drew));exact Kd.R_mono (Kd.R_far (p:=⟨w.heap.size+1,0,none⟩) (Kd.R_types HO.out BK.out (by decide)) (fun _ hk=>hk.2) (.slice Ao r.length co)) (fun _ hk=>trivial),by repeat (first|(with_reducible first|exact B2.out|apply Qj|apply Qk|apply Q2|refine Qbt ?_ (Nat.le_succ _))|exact B2.out)⟩
end Go.Proofs.YtkgngggppcmpfaaGreat.L
end
