/-
  No cell of these rows narrows 'for every input' (looked for: loops, veiled, ifaces, maps, wideKeys, modest, calm, conditions, laid).
  DERIVED. THE GIVEN ROWS OF THIS SEAT. 3 by the template 'for every input the law returns true; each argument reads behind the call as it read before'; 0 by the template 'total and deterministic' (their statements: YtkgngggppcmpfaaTotals.lean).
  GIVEN WITH THE SEED: the statements are not yours to turn. If you find one false, say at which input.
  Laid BY PROGRAM, IN A SANDBOX (cutbox-rows.mjs): the forced cells as the released guide's own fill.sh prints them over the translation 0d44189d3bdf3d96… (all of the seat's roots in one cut). By AI agents, Wed Nov 11 2026. No macro, syntax, notation, axiom, sorry.
-/
import Derived.Test.YtkgngggppcmpfaaChecked
import GoSem.Claim
import GoSem.ClaimJoined
import GoSem.ClaimMapViews
import Derived.JoinedTies
import Derived.KernelRfl
namespace Go.Proofs.Ytkgngggppcmpfaa
/- THE CELL 'sum', in the pinned program and in every row, IS THE sha256 OF THE DUMP (.gsa) THAT YtkgngggppcmpfaaProg.lean LOADS. Nothing in Lean hashes anything: it is a label: what it is worth is what the hold of that sum in a sandbox is worth. -/
noncomputable def Try.pinned : Pinned := { name := "ytkgngggppcmpfaa", sum := "0d44189d3bdf3d96b70d8cdfe5f0f80ff565973e196e6d7b3fb37eafd01f39ba", checked := Try.checked }
namespace Rows
def none {H : Type} : Left H := { results := [], args := [] }

/-- 'laws.FnArrayOrbits': WHATEVER THE INPUT: true; the input reads as it did. -/
def fnArrayOrbitsSpec : ChangeSpec := { name := "fnArrayOrbits", fn := fun _ => fun
  | [d1, d2] => { results := [.lit (.bool true)], args := [d1, d2] }
  | _ => none }
def fnArrayOrbitsRow : OpenClaim := { program := "ytkgngggppcmpfaa", sum := "0d44189d3bdf3d96b70d8cdfe5f0f80ff565973e196e6d7b3fb37eafd01f39ba", func := "loop.example/g01138/laws.FnArrayOrbits", spec := "fnArrayOrbits", unfollowed := true, recurses := true, apart := false }
def FnArrayOrbitsSaid : Prop := fnArrayOrbitsRow.holds Try.pinned (OpenSpec.ofChange fnArrayOrbitsSpec)

/-- ITS FALSE NEIGHBOUR: 'it returns false'. Refute it at one input. -/
def fnArrayOrbitsWrong : ChangeSpec := { name := "fnArrayOrbits", fn := fun _ => fun
  | [d1, d2] => { results := [.lit (.bool false)], args := [d1, d2] }
  | _ => none }
def FnArrayOrbitsWrongFalsely : Prop := fnArrayOrbitsRow.holds Try.pinned (OpenSpec.ofChange fnArrayOrbitsWrong)

/-- 'laws.FnNumbersToggled': WHATEVER THE INPUT: true; the input reads as it did. -/
def fnNumbersToggledSpec : ChangeSpec := { name := "fnNumbersToggled", fn := fun _ => fun
  | [d1, d2] => { results := [.lit (.bool true)], args := [d1, d2] }
  | _ => none }
def fnNumbersToggledRow : OpenClaim := { program := "ytkgngggppcmpfaa", sum := "0d44189d3bdf3d96b70d8cdfe5f0f80ff565973e196e6d7b3fb37eafd01f39ba", func := "loop.example/g01138/laws.FnNumbersToggled", spec := "fnNumbersToggled", unfollowed := true, recurses := true, apart := false }
def FnNumbersToggledSaid : Prop := fnNumbersToggledRow.holds Try.pinned (OpenSpec.ofChange fnNumbersToggledSpec)

/-- ITS FALSE NEIGHBOUR: 'it returns false'. Refute it at one input. -/
def fnNumbersToggledWrong : ChangeSpec := { name := "fnNumbersToggled", fn := fun _ => fun
  | [d1, d2] => { results := [.lit (.bool false)], args := [d1, d2] }
  | _ => none }
def FnNumbersToggledWrongFalsely : Prop := fnNumbersToggledRow.holds Try.pinned (OpenSpec.ofChange fnNumbersToggledWrong)

/-- 'laws.FnArraysAreLayers': WHATEVER THE INPUT: true; the input reads as it did. -/
def fnArraysAreLayersSpec : ChangeSpec := { name := "fnArraysAreLayers", fn := fun _ => fun
  | [d1, d2] => { results := [.lit (.bool true)], args := [d1, d2] }
  | _ => none }
def fnArraysAreLayersRow : OpenClaim := { program := "ytkgngggppcmpfaa", sum := "0d44189d3bdf3d96b70d8cdfe5f0f80ff565973e196e6d7b3fb37eafd01f39ba", func := "loop.example/g01138/laws.FnArraysAreLayers", spec := "fnArraysAreLayers", unfollowed := true, recurses := true, apart := false }
def FnArraysAreLayersSaid : Prop := fnArraysAreLayersRow.holds Try.pinned (OpenSpec.ofChange fnArraysAreLayersSpec)

/-- ITS FALSE NEIGHBOUR: 'it returns false'. Refute it at one input. -/
def fnArraysAreLayersWrong : ChangeSpec := { name := "fnArraysAreLayers", fn := fun _ => fun
  | [d1, d2] => { results := [.lit (.bool false)], args := [d1, d2] }
  | _ => none }
def FnArraysAreLayersWrongFalsely : Prop := fnArraysAreLayersRow.holds Try.pinned (OpenSpec.ofChange fnArraysAreLayersWrong)

/- THE SECOND FORM. 'bulk': how many values and letters a reading holds, each counted each time it is reached (what is shared counts as often as it is met; a slice's spare places count too). A statement '..UptoSaid' is the law's where the arguments, and the package variables that the reading takes, are together of bulk at most 1048576: NARROWER than '..Said'. Prove '..Said' where nothing that the law and all that it calls make is longer than what came in: it says more and counts as full. Else prove '..UptoSaid'. A law counts once. -/
mutual
def uptoBulk {H : Type} : DataW H → Nat
  | .lit (.string bytes) => bytes.length + 1
  | .lit _ => 1
  | .nil => 1
  | .ptr d => uptoBulk d + 1
  | .slice elems spare => uptoBulkAll elems + uptoBulkAll spare + 1
  | .agg parts => uptoBulkAll parts + 1
  | .iface _ d => uptoBulk d + 1
  | .map entries => uptoBulkEntries entries + 1
  | .held _ => 1
def uptoBulkAll {H : Type} : List (DataW H) → Nat
  | [] => 0
  | d :: r => uptoBulk d + uptoBulkAll r
def uptoBulkEntries {H : Type} : List (Lit × DataW H) → Nat
  | [] => 0
  | x :: r => uptoBulkEntry x + uptoBulkEntries r
def uptoBulkEntry {H : Type} : Lit × DataW H → Nat
  | (.string bytes, d) => bytes.length + uptoBulk d + 1
  | (_, d) => uptoBulk d + 1
 end
def uptoSmall : (H : Type) → List (DataW H) → Bool := fun _ ds => decide (uptoBulkAll ds ≤ 1048576)
def OpenSpec.upto (s : _root_.Go.ChangeSpec) : _root_.Go.OpenSpec := { _root_.Go.OpenSpec.ofChange s with cond := some uptoSmall }

/-- 'laws.FnArrayOrbits', WHERE WHAT IT READS IS OF BULK AT MOST 1048576: true; the input reads as it did. -/
def fnArrayOrbitsUptoRow : OpenClaim := { program := "ytkgngggppcmpfaa", sum := "0d44189d3bdf3d96b70d8cdfe5f0f80ff565973e196e6d7b3fb37eafd01f39ba", func := "loop.example/g01138/laws.FnArrayOrbits", spec := "fnArrayOrbits", unfollowed := true, recurses := true, apart := false, narrowed := true }
def FnArrayOrbitsUptoSaid : Prop := fnArrayOrbitsUptoRow.holds Try.pinned (OpenSpec.upto fnArrayOrbitsSpec)

/-- 'laws.FnNumbersToggled', WHERE WHAT IT READS IS OF BULK AT MOST 1048576: true; the input reads as it did. -/
def fnNumbersToggledUptoRow : OpenClaim := { program := "ytkgngggppcmpfaa", sum := "0d44189d3bdf3d96b70d8cdfe5f0f80ff565973e196e6d7b3fb37eafd01f39ba", func := "loop.example/g01138/laws.FnNumbersToggled", spec := "fnNumbersToggled", unfollowed := true, recurses := true, apart := false, narrowed := true }
def FnNumbersToggledUptoSaid : Prop := fnNumbersToggledUptoRow.holds Try.pinned (OpenSpec.upto fnNumbersToggledSpec)

/-- 'laws.FnArraysAreLayers', WHERE WHAT IT READS IS OF BULK AT MOST 1048576: true; the input reads as it did. -/
def fnArraysAreLayersUptoRow : OpenClaim := { program := "ytkgngggppcmpfaa", sum := "0d44189d3bdf3d96b70d8cdfe5f0f80ff565973e196e6d7b3fb37eafd01f39ba", func := "loop.example/g01138/laws.FnArraysAreLayers", spec := "fnArraysAreLayers", unfollowed := true, recurses := true, apart := false, narrowed := true }
def FnArraysAreLayersUptoSaid : Prop := fnArraysAreLayersUptoRow.holds Try.pinned (OpenSpec.upto fnArraysAreLayersSpec)

end Rows
end Go.Proofs.Ytkgngggppcmpfaa
