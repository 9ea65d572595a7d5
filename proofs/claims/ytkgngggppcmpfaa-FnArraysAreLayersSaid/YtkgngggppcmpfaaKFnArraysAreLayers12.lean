/- Laws about the given program: the law FnArraysAreLayers answers true for every input that its row lets in; no condition is added to the given statement. Contracts of the Go functions that it reaches, and the plain proof over lists. -/
import Derived.Below
import Derived.ChangeOld
import Derived.OpenShut
import Derived.ProofKit
import Derived.ShutString
import Derived.SizedLaws
import Derived.Test.YtkgngggppcmpfaaRows
import Derived.WalkKit
import Derived.Test.YtkgngggppcmpfaaWFnArraysAreLayers0
import Derived.Test.YtkgngggppcmpfaaKFnArraysAreLayers0
import Derived.Test.YtkgngggppcmpfaaKFnArraysAreLayers1
import Derived.Test.YtkgngggppcmpfaaKFnArraysAreLayers2
import Derived.Test.YtkgngggppcmpfaaKFnArraysAreLayers3
import Derived.Test.YtkgngggppcmpfaaKFnArraysAreLayers4
import Derived.Test.YtkgngggppcmpfaaKFnArraysAreLayers5
import Derived.Test.YtkgngggppcmpfaaKFnArraysAreLayers6
import Derived.Test.YtkgngggppcmpfaaKFnArraysAreLayers7
import Derived.Test.YtkgngggppcmpfaaKFnArraysAreLayers8
import Derived.Test.YtkgngggppcmpfaaKFnArraysAreLayers9
import Derived.Test.YtkgngggppcmpfaaKFnArraysAreLayers10
import Derived.Test.YtkgngggppcmpfaaKFnArraysAreLayers11
section
namespace Go.Proofs.Ytkgngggppcmpfaa.fnArraysAreLayers
open Go.ChangeShapes Go.WideShapes Go.ChangeAt Go.RowKit
open Go.ChangeMaps (open_string shut_string)
set_option linter.unusedVariables false
theorem own:ownKnob Try.prog.godebug=none:=by kernel_rfl
theorem laidOut:laidOutB Try.prog=true:=by kernel_rfl
def IsRow (k:IntKind) (w:World) (a:Option Addr) (len cap:Nat) (zs:List Int):Prop:=
 (a = none ∧ len = 0 ∧ cap = 0 ∧ zs = []) ∨
 ∃ x, a = some x ∧ len ≤ cap ∧ cap ≤ maxLen ∧ zs.length = cap ∧ (∀ i, i < zs.length → w.cell? (x.add i) = some (.int k (zs.getD i 0))) ∧ ∀ n ∈ zs, (Lit.int k n).wf = true
set_option maxRecDepth 100000 in
theorem lifted (os:Os) (started:os.Started) (H:Type) (enc:TypeId × Value→H):
  ReturnsInHanded {} Try.checked os 5 .any (Rows.fnArraysAreLayersSpec.pre6 enc Try.prog Try.f5 Rows.fnArraysAreLayersRow.domain false) (Rows.fnArraysAreLayersSpec.post enc Try.prog Try.f5 false true false false) := by
 refine returnsInHanded_of_change_sized (C := Try.checked) own started (by kernel_rfl) Try.func5
  (ChangeSpec.witness6 (enc := enc) (C := Try.checked) false ⟨#[], #[.slice none 0 0, .slice none 0 0], []⟩ 8 (by kernel_rfl) (by kernel_rfl) (by kernel_rfl) (by kernel_rfl)) ?_
 intro W base args ds gs before hval0 hW hcnd hsz0 _
 have hsz : (DataW.weightsEach Try.prog (Try.f5.params.toList ++ Rows.fnArraysAreLayersSpec.plain.varTypes Try.prog) (ds ++ gs)).all (· ≤ reachBytes) = true := hsz0
 have hval : ∀ (j : Nat) t v, Try.f5.params[j]? = some t → args[j]? = some v → Value.okWide Try.prog W .any base t v := hval0
 have hW' := hW
 obtain ⟨p, q, hA0, hV, rfl, hfz, hnd⟩ := hW
 have hA : DataW.TrodAll enc Try.prog W 0 (fun _ => true) true Try.f5.params.toList args.toList ds p := hA0
 rw [Try.params5] at hA hval hsz
 obtain ⟨v0, vs0, d0, ds0, p0, q0, hargs, rfl, rfl, h0, r0⟩ := trodAll_cons hA
 obtain ⟨v1, vs1, d1, ds1, p1, q1, rfl, rfl, rfl, h1, r1⟩ := trodAll_cons r0
 obtain ⟨rfl, rfl, rfl⟩ := trodAll_nil r1
 obtain rfl : args = #[v0, v1] := by cases args; simp_all
 obtain ⟨rfl, rfl⟩ := trodVars_none hV
 obtain ⟨a0, len0, cap0, rfl⟩ := okWide_slice Try.underlying22 (hval 0 22 v0 rfl rfl)
 have k0 := h0
 have lt0 : ∀ x ∈ p0, x.block < W.heap.size := by obtain ⟨m, hm⟩ := k0; exact DataW.trod_lt m _ _ _ hm
 obtain ⟨z0, w0⟩ : ∃ zs, IsRow .u8 W a0 len0 cap0 zs := by
  obtain ⟨fuel, hf⟩ := h0
  rcases open_ints Try.underlying22 Try.underlying5 (by kernel_rfl) hf with ⟨hcs, _⟩ | ⟨x, l, c, zs, hcs, _, hl, hm, hz, _, hcell, hwz⟩
  ·
   simp [Value.cells] at hcs
   obtain ⟨rfl, rfl, rfl⟩ := hcs
   exact ⟨[], .inl ⟨rfl, rfl, rfl, rfl⟩⟩
  ·
   simp [Value.cells] at hcs
   obtain ⟨rfl, rfl, rfl⟩ := hcs
   exact ⟨zs, .inr ⟨_, rfl, hl, hm, by simpa using hz, hcell, hwz⟩⟩
 have y0 : len0 * 1 ≤ 140737488351232 := Go.Proofs.YtkgngggppcmpfaaW.PrintWords.sized_ints hsz (j := 0) (t := 22) rfl rfl Try.underlying22 Try.underlying5 (by kernel_rfl) (by kernel_rfl) h0
 obtain ⟨a1, len1, cap1, rfl⟩ := okWide_slice Try.underlying22 (hval 1 22 v1 rfl rfl)
 have k1 := h1
 have lt1 : ∀ x ∈ p1, x.block < W.heap.size := by obtain ⟨m, hm⟩ := k1; exact DataW.trod_lt m _ _ _ hm
 obtain ⟨z1, w1⟩ : ∃ zs, IsRow .u8 W a1 len1 cap1 zs := by
  obtain ⟨fuel, hf⟩ := h1
  rcases open_ints Try.underlying22 Try.underlying5 (by kernel_rfl) hf with ⟨hcs, _⟩ | ⟨x, l, c, zs, hcs, _, hl, hm, hz, _, hcell, hwz⟩
  ·
   simp [Value.cells] at hcs
   obtain ⟨rfl, rfl, rfl⟩ := hcs
   exact ⟨[], .inl ⟨rfl, rfl, rfl, rfl⟩⟩
  ·
   simp [Value.cells] at hcs
   obtain ⟨rfl, rfl, rfl⟩ := hcs
   exact ⟨zs, .inr ⟨_, rfl, hl, hm, by simpa using hz, hcell, hwz⟩⟩
 have y1 : len1 * 1 ≤ 140737488351232 := Go.Proofs.YtkgngggppcmpfaaW.PrintWords.sized_ints hsz (j := 1) (t := 22) rfl rfl Try.underlying22 Try.underlying5 (by kernel_rfl) (by kernel_rfl) h1
 clear hA0 hval0 hsz0 hsz
 refine (L.laws_FnArraysAreLayers.walk Pure.FnArraysAreLayers a0 len0 cap0 z0 a1 len1 cap1 z1 W w0 y0 w1 y1).mono fun e W' ⟨he, bel⟩ => ?_
 subst he
 exact ⟨_, rfl, _, _, _, [], _, [], hW', trodAll_mk1 (shut_bool Try.underlying4 _), (trodAll_cons_mk (Below.trod laidOut (by kernel_rfl) (of_decide_eq_true (by kernel_rfl)) k0 bel lt0) (trodAll_cons_mk (Below.trod laidOut (by kernel_rfl) (of_decide_eq_true (by kernel_rfl)) k1 bel lt1) trodAll_mk0)), rfl, bel.frame _, fun h => by cases h⟩
theorem ov0:mapsRowed Try.pinned.checked.prog=true:=by kernel_rfl
theorem ov1:(Rows.fnArraysAreLayersRow.inPlace==Try.pinned.checked.prog.inPlace 5)=true:=by kernel_rfl
theorem ov2:(Rows.fnArraysAreLayersRow.unfollowed==Try.pinned.checked.prog.unfollowed 5)=true:=by kernel_rfl
theorem ov3:(Rows.fnArraysAreLayersRow.recurses==Try.pinned.checked.prog.recurses 5)=true:=by kernel_rfl
theorem ov4:(Rows.fnArraysAreLayersRow.named==Try.pinned.checked.prog.varsNamed 5)=true:=by kernel_rfl
theorem ov5:(Rows.fnArraysAreLayersRow.plainKeys==Try.pinned.checked.prog.plainKeys)=true:=by kernel_rfl
theorem ov6:Try.pinned.checked.prog.stopsHeard=true:=by kernel_rfl
theorem ov7:Try.pinned.checked.prog.mayEnter=true:=by kernel_rfl
theorem ov8:(Rows.fnArraysAreLayersRow.lifted==Try.pinned.checked.prog.liftsFinal)=true:=by kernel_rfl
theorem ov9:(Try.pinned.checked.prog.make==some Rows.fnArraysAreLayersRow.make)=true:=by kernel_rfl
theorem ov10:(Rows.fnArraysAreLayersRow.pinned==Rows.fnArraysAreLayersRow.pinnedBy)=true:=by kernel_rfl
theorem ova:Try.pinned.checked.prog.funcNamed Rows.fnArraysAreLayersRow.func=some 5:=by kernel_rfl
theorem ovb:joinedFacts Try.pinned.checked.prog 5 Try.f5 Rows.fnArraysAreLayersSpec Rows.fnArraysAreLayersRow=true:=by
 unfold joinedFacts
 rw [(show laidOutB Try.pinned.checked.prog = true from laidOut), ov0, ov1, ov2, ov3, ov4, ov5, ov6, ov7, ov8, ov9, ov10]
 kernel_rfl
theorem ovc:Func.isInstance Try.pinned.checked.prog Try.f5 Rows.fnArraysAreLayersRow.origin Rows.fnArraysAreLayersRow.targs:=of_decide_eq_true (by kernel_rfl)
theorem ovd:Func.isWrapper Try.pinned.checked.prog Try.f5 Rows.fnArraysAreLayersRow.wrapper Rows.fnArraysAreLayersRow.mainSum:=by unfold Func.isWrapper;first|(rw [if_pos (by decide+kernel)];kernel_rfl)|(rw [if_neg (by decide+kernel)];exact ⟨rfl,rfl⟩)
theorem over:Rows.fnArraysAreLayersRow.holds Try.pinned (OpenSpec.ofChange Rows.fnArraysAreLayersSpec):=
 OpenClaim.holds_of_wide 5 Try.f5 rfl rfl rfl rfl rfl rfl rfl ⟨rfl, rfl, rfl, rfl, rfl⟩ rfl rfl rfl rfl rfl ova Try.func5 ovb ovc ovd (fun os started H enc _ => lifted os started H enc)
theorem proved:Rows.FnArraysAreLayersSaid:=over
end Go.Proofs.Ytkgngggppcmpfaa.fnArraysAreLayers
namespace Go.Proofs.Ytkgngggppcmpfaa
theorem fnArraysAreLayers_holds:Rows.FnArraysAreLayersSaid:=fnArraysAreLayers.proved
end Go.Proofs.Ytkgngggppcmpfaa
end
