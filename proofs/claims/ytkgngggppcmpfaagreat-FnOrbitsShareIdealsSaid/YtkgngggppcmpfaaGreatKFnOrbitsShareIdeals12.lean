/- Laws about the given program: the law FnOrbitsShareIdeals answers true for every input that its row lets in; no condition is added to the given statement. Contracts of the Go functions that it reaches, and the plain proof over lists. -/
import Derived.Below
import Derived.ChangeOld
import Derived.OpenShut
import Derived.ProofKit
import Derived.ShutString
import Derived.SizedLaws
import Derived.Test.YtkgngggppcmpfaaGreatRows
import Derived.WalkKit
import Derived.Test.YtkgngggppcmpfaaGreatWFnOrbitsShareIdeals0
import Derived.Test.YtkgngggppcmpfaaGreatKFnOrbitsShareIdeals0
import Derived.Test.YtkgngggppcmpfaaGreatKFnOrbitsShareIdeals1
import Derived.Test.YtkgngggppcmpfaaGreatKFnOrbitsShareIdeals2
import Derived.Test.YtkgngggppcmpfaaGreatKFnOrbitsShareIdeals3
import Derived.Test.YtkgngggppcmpfaaGreatKFnOrbitsShareIdeals4
import Derived.Test.YtkgngggppcmpfaaGreatKFnOrbitsShareIdeals5
import Derived.Test.YtkgngggppcmpfaaGreatKFnOrbitsShareIdeals6
import Derived.Test.YtkgngggppcmpfaaGreatKSF
import Derived.Test.YtkgngggppcmpfaaGreatKFnOrbitsShareIdeals8
import Derived.Test.YtkgngggppcmpfaaGreatKFnOrbitsShareIdeals9
import Derived.Test.YtkgngggppcmpfaaGreatKFnOrbitsShareIdeals10
import Derived.Test.YtkgngggppcmpfaaGreatKFnOrbitsShareIdeals11
section
namespace Go.Proofs.YtkgngggppcmpfaaGreat.fnOrbitsShareIdeals
open Go.ChangeShapes Go.WideShapes Go.ChangeAt Go.RowKit
open Go.ChangeMaps (open_string shut_string)
set_option linter.unusedVariables false
theorem own : ownKnob Tryz.prog.godebug = none := by kernel_rfl
theorem laidOut : laidOutB Tryz.prog = true := by kernel_rfl
def IsRow (k : IntKind) (w : World) (a : Option Addr) (len cap : Nat) (zs : List Int) : Prop :=
 (a = none ∧ len = 0 ∧ cap = 0 ∧ zs = []) ∨
 ∃ x, a = some x ∧ len ≤ cap ∧ cap ≤ maxLen ∧ zs.length = cap ∧ (∀ i, i < zs.length → w.cell? (x.add i) = some (.int k (zs.getD i 0))) ∧ ∀ n ∈ zs, (Lit.int k n).wf = true
set_option maxRecDepth 100000 in
theorem lifted (os : Os) (started : os.Started) (H : Type) (enc : TypeId × Value → H) :
  ReturnsInHanded {} Tryz.checked os 4 .any (Rows.fnOrbitsShareIdealsSpec.pre6 enc Tryz.prog Tryz.f4 Rows.fnOrbitsShareIdealsRow.domain false) (Rows.fnOrbitsShareIdealsSpec.post enc Tryz.prog Tryz.f4 false true false false) := by
 refine returnsInHanded_of_change_sized (C := Tryz.checked) own started (by kernel_rfl) Tryz.func4
  (ChangeSpec.witness6 (enc := enc) (C := Tryz.checked) false ⟨#[], #[.slice none 0 0, .slice none 0 0], []⟩ 8 (by kernel_rfl) (by kernel_rfl) (by kernel_rfl) (by kernel_rfl)) ?_
 intro W base args ds gs before hval0 hW hcnd hsz0 _
 have hsz : (DataW.weightsEach Tryz.prog (Tryz.f4.params.toList ++ Rows.fnOrbitsShareIdealsSpec.plain.varTypes Tryz.prog) (ds ++ gs)).all (· ≤ reachBytes) = true := hsz0
 have hval : ∀ (j : Nat) t v, Tryz.f4.params[j]? = some t → args[j]? = some v → Value.okWide Tryz.prog W .any base t v := hval0
 have hW' := hW
 obtain ⟨p, q, hA0, hV, rfl, hfz, hnd⟩ := hW
 have hA : DataW.TrodAll enc Tryz.prog W 0 (fun _ => true) true Tryz.f4.params.toList args.toList ds p := hA0
 rw [Tryz.params4] at hA hval hsz
 obtain ⟨v0, vs0, d0, ds0, p0, q0, hargs, rfl, rfl, h0, r0⟩ := trodAll_cons hA
 obtain ⟨v1, vs1, d1, ds1, p1, q1, rfl, rfl, rfl, h1, r1⟩ := trodAll_cons r0
 obtain ⟨rfl, rfl, rfl⟩ := trodAll_nil r1
 obtain rfl : args = #[v0, v1] := by cases args; simp_all
 obtain ⟨rfl, rfl⟩ := trodVars_none hV
 obtain ⟨a0, len0, cap0, rfl⟩ := okWide_slice Tryz.underlying22 (hval 0 22 v0 rfl rfl)
 have k0 := h0
 have lt0 : ∀ x ∈ p0, x.block < W.heap.size := by obtain ⟨m, hm⟩ := k0; exact DataW.trod_lt m _ _ _ hm
 obtain ⟨z0, w0⟩ : ∃ zs, IsRow .u8 W a0 len0 cap0 zs := by
  obtain ⟨fuel, hf⟩ := h0
  rcases open_ints Tryz.underlying22 Tryz.underlying5 (by kernel_rfl) hf with ⟨hcs, _⟩ | ⟨x, l, c, zs, hcs, _, hl, hm, hz, _, hcell, hwz⟩
  ·
   simp [Value.cells] at hcs
   obtain ⟨rfl, rfl, rfl⟩ := hcs
   exact ⟨[], .inl ⟨rfl, rfl, rfl, rfl⟩⟩
  ·
   simp [Value.cells] at hcs
   obtain ⟨rfl, rfl, rfl⟩ := hcs
   exact ⟨zs, .inr ⟨_, rfl, hl, hm, by simpa using hz, hcell, hwz⟩⟩
 have y0 : len0 * 1 ≤ 140737488351232 := Go.Proofs.YtkgngggppcmpfaaGreatW.PrintWords.sized_ints hsz (j := 0) (t := 22) rfl rfl Tryz.underlying22 Tryz.underlying5 (by kernel_rfl) (by kernel_rfl) h0
 obtain ⟨a1, len1, cap1, rfl⟩ := okWide_slice Tryz.underlying22 (hval 1 22 v1 rfl rfl)
 have k1 := h1
 have lt1 : ∀ x ∈ p1, x.block < W.heap.size := by obtain ⟨m, hm⟩ := k1; exact DataW.trod_lt m _ _ _ hm
 obtain ⟨z1, w1⟩ : ∃ zs, IsRow .u8 W a1 len1 cap1 zs := by
  obtain ⟨fuel, hf⟩ := h1
  rcases open_ints Tryz.underlying22 Tryz.underlying5 (by kernel_rfl) hf with ⟨hcs, _⟩ | ⟨x, l, c, zs, hcs, _, hl, hm, hz, _, hcell, hwz⟩
  ·
   simp [Value.cells] at hcs
   obtain ⟨rfl, rfl, rfl⟩ := hcs
   exact ⟨[], .inl ⟨rfl, rfl, rfl, rfl⟩⟩
  ·
   simp [Value.cells] at hcs
   obtain ⟨rfl, rfl, rfl⟩ := hcs
   exact ⟨zs, .inr ⟨_, rfl, hl, hm, by simpa using hz, hcell, hwz⟩⟩
 have y1 : len1 * 1 ≤ 140737488351232 := Go.Proofs.YtkgngggppcmpfaaGreatW.PrintWords.sized_ints hsz (j := 1) (t := 22) rfl rfl Tryz.underlying22 Tryz.underlying5 (by kernel_rfl) (by kernel_rfl) h1
 clear hA0 hval0 hsz0 hsz
 refine (L.laws_FnOrbitsShareIdeals.walk Pure.FnOrbitsShareIdeals a0 len0 cap0 z0 a1 len1 cap1 z1 W w0 y0 w1 y1).mono fun e W' ⟨he, bel⟩ => ?_
 subst he
 exact ⟨_, rfl, _, _, _, [], _, [], hW', trodAll_mk1 (shut_bool Tryz.underlying4 _), (trodAll_cons_mk (Below.trod laidOut (by kernel_rfl) (of_decide_eq_true (by kernel_rfl)) k0 bel lt0) (trodAll_cons_mk (Below.trod laidOut (by kernel_rfl) (of_decide_eq_true (by kernel_rfl)) k1 bel lt1) trodAll_mk0)), rfl, bel.frame _, fun h => by cases h⟩
theorem ov0 : mapsRowed Tryz.pinned.checked.prog = true := by kernel_rfl
theorem ov1 : (Rows.fnOrbitsShareIdealsRow.inPlace == Tryz.pinned.checked.prog.inPlace 4) = true := by kernel_rfl
theorem ov2 : (Rows.fnOrbitsShareIdealsRow.unfollowed == Tryz.pinned.checked.prog.unfollowed 4) = true := by kernel_rfl
theorem ov3 : (Rows.fnOrbitsShareIdealsRow.recurses == Tryz.pinned.checked.prog.recurses 4) = true := by kernel_rfl
theorem ov4 : (Rows.fnOrbitsShareIdealsRow.named == Tryz.pinned.checked.prog.varsNamed 4) = true := by kernel_rfl
theorem ov5 : (Rows.fnOrbitsShareIdealsRow.plainKeys == Tryz.pinned.checked.prog.plainKeys) = true := by kernel_rfl
theorem ov6 : Tryz.pinned.checked.prog.stopsHeard = true := by kernel_rfl
theorem ov7 : Tryz.pinned.checked.prog.mayEnter = true := by kernel_rfl
theorem ov8 : (Rows.fnOrbitsShareIdealsRow.lifted == Tryz.pinned.checked.prog.liftsFinal) = true := by kernel_rfl
theorem ov9 : (Tryz.pinned.checked.prog.make == some Rows.fnOrbitsShareIdealsRow.make) = true := by kernel_rfl
theorem ov10 : (Rows.fnOrbitsShareIdealsRow.pinned == Rows.fnOrbitsShareIdealsRow.pinnedBy) = true := by kernel_rfl
theorem ova : Tryz.pinned.checked.prog.funcNamed Rows.fnOrbitsShareIdealsRow.func = some 4 := by kernel_rfl
theorem ovb : joinedFacts Tryz.pinned.checked.prog 4 Tryz.f4 Rows.fnOrbitsShareIdealsSpec Rows.fnOrbitsShareIdealsRow = true := by
 unfold joinedFacts
 rw [(show laidOutB Tryz.pinned.checked.prog = true from laidOut), ov0, ov1, ov2, ov3, ov4, ov5, ov6, ov7, ov8, ov9, ov10]
 kernel_rfl
theorem ovc : Func.isInstance Tryz.pinned.checked.prog Tryz.f4 Rows.fnOrbitsShareIdealsRow.origin Rows.fnOrbitsShareIdealsRow.targs := of_decide_eq_true (by kernel_rfl)
theorem ovd : Func.isWrapper Tryz.pinned.checked.prog Tryz.f4 Rows.fnOrbitsShareIdealsRow.wrapper Rows.fnOrbitsShareIdealsRow.mainSum := by unfold Func.isWrapper; first | (rw [if_pos (by decide +kernel)]; kernel_rfl) | (rw [if_neg (by decide +kernel)]; exact ⟨rfl, rfl⟩)
theorem over : Rows.fnOrbitsShareIdealsRow.holds Tryz.pinned (OpenSpec.ofChange Rows.fnOrbitsShareIdealsSpec) :=
 OpenClaim.holds_of_wide 4 Tryz.f4 rfl rfl rfl rfl rfl rfl rfl ⟨rfl, rfl, rfl, rfl, rfl⟩ rfl rfl rfl rfl rfl ova Tryz.func4 ovb ovc ovd (fun os started H enc _ => lifted os started H enc)
theorem proved : Rows.FnOrbitsShareIdealsSaid := over
end Go.Proofs.YtkgngggppcmpfaaGreat.fnOrbitsShareIdeals
namespace Go.Proofs.YtkgngggppcmpfaaGreat
theorem fnOrbitsShareIdeals_holds : Rows.FnOrbitsShareIdealsSaid := fnOrbitsShareIdeals.proved
end Go.Proofs.YtkgngggppcmpfaaGreat
end
