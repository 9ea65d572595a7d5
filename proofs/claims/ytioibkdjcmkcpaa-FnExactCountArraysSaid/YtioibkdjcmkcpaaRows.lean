/-
  No cell of these rows narrows 'for every input' (looked for: loops, veiled, ifaces, maps, wideKeys, modest, calm, conditions, laid).
  DERIVED. THE GIVEN ROWS OF THIS SEAT. 12 by the template 'for every input the law returns true; each argument reads behind the call as it read before'; 0 by the template 'total and deterministic' (their statements: YtioibkdjcmkcpaaTotals.lean).
  GIVEN WITH THE SEED: the statements are not yours to turn. If you find one false, say at which input.
  Laid BY PROGRAM, IN A SANDBOX (cutbox-rows.mjs): the forced cells as the released guide's own fill.sh prints them over the translation 5f817339159cd9fc… (all of the seat's roots in one cut). By AI agents, Wed Nov 11 2026. No macro, syntax, notation, axiom, sorry.
-/
import Derived.Test.YtioibkdjcmkcpaaChecked
import GoSem.Claim
import GoSem.ClaimJoined
import GoSem.ClaimMapViews
import Derived.JoinedTies
import Derived.KernelRfl
namespace Go.Proofs.Ytioibkdjcmkcpaa
/- THE CELL 'sum', in the pinned program and in every row, IS THE sha256 OF THE DUMP (.gsa) THAT YtioibkdjcmkcpaaProg.lean LOADS. Nothing in Lean hashes anything: it is a label: what it is worth is what the hold of that sum in a sandbox is worth. -/
noncomputable def Try.pinned : Pinned := { name := "ytioibkdjcmkcpaa", sum := "5f817339159cd9fc92c4e0e4d32cbad9e24ffe0f448af46fa3b62808ae61f125", checked := Try.checked }
namespace Rows
def none {H : Type} : Left H := { results := [], args := [] }

/-- 'laws.FnExactIsArray': WHATEVER THE INPUT: true; the input reads as it did. -/
def fnExactIsArraySpec : ChangeSpec := { name := "fnExactIsArray", fn := fun _ => fun
  | [d1, d2, d3] => { results := [.lit (.bool true)], args := [d1, d2, d3] }
  | _ => none }
def fnExactIsArrayRow : OpenClaim := { program := "ytioibkdjcmkcpaa", sum := "5f817339159cd9fc92c4e0e4d32cbad9e24ffe0f448af46fa3b62808ae61f125", func := "loop.example/g01138/laws.FnExactIsArray", spec := "fnExactIsArray", apart := false }
def FnExactIsArraySaid : Prop := fnExactIsArrayRow.holds Try.pinned (OpenSpec.ofChange fnExactIsArraySpec)

/-- ITS FALSE NEIGHBOUR: 'it returns false'. Refute it at one input. -/
def fnExactIsArrayWrong : ChangeSpec := { name := "fnExactIsArray", fn := fun _ => fun
  | [d1, d2, d3] => { results := [.lit (.bool false)], args := [d1, d2, d3] }
  | _ => none }
def FnExactIsArrayWrongFalsely : Prop := fnExactIsArrayRow.holds Try.pinned (OpenSpec.ofChange fnExactIsArrayWrong)

/-- 'laws.FnExactValueByRemainders': WHATEVER THE INPUT: true; the input reads as it did. -/
def fnExactValueByRemaindersSpec : ChangeSpec := { name := "fnExactValueByRemainders", fn := fun _ => fun
  | [d1, d2] => { results := [.lit (.bool true)], args := [d1, d2] }
  | _ => none }
def fnExactValueByRemaindersRow : OpenClaim := { program := "ytioibkdjcmkcpaa", sum := "5f817339159cd9fc92c4e0e4d32cbad9e24ffe0f448af46fa3b62808ae61f125", func := "loop.example/g01138/laws.FnExactValueByRemainders", spec := "fnExactValueByRemainders", unfollowed := true, recurses := true, apart := false }
def FnExactValueByRemaindersSaid : Prop := fnExactValueByRemaindersRow.holds Try.pinned (OpenSpec.ofChange fnExactValueByRemaindersSpec)

/-- ITS FALSE NEIGHBOUR: 'it returns false'. Refute it at one input. -/
def fnExactValueByRemaindersWrong : ChangeSpec := { name := "fnExactValueByRemainders", fn := fun _ => fun
  | [d1, d2] => { results := [.lit (.bool false)], args := [d1, d2] }
  | _ => none }
def FnExactValueByRemaindersWrongFalsely : Prop := fnExactValueByRemaindersRow.holds Try.pinned (OpenSpec.ofChange fnExactValueByRemaindersWrong)

/-- 'laws.FnExactGaussOf': WHATEVER THE INPUT: true; the input reads as it did. -/
def fnExactGaussOfSpec : ChangeSpec := { name := "fnExactGaussOf", fn := fun _ => fun
  | [d1, d2] => { results := [.lit (.bool true)], args := [d1, d2] }
  | _ => none }
def fnExactGaussOfRow : OpenClaim := { program := "ytioibkdjcmkcpaa", sum := "5f817339159cd9fc92c4e0e4d32cbad9e24ffe0f448af46fa3b62808ae61f125", func := "loop.example/g01138/laws.FnExactGaussOf", spec := "fnExactGaussOf", unfollowed := true, recurses := true, apart := false }
def FnExactGaussOfSaid : Prop := fnExactGaussOfRow.holds Try.pinned (OpenSpec.ofChange fnExactGaussOfSpec)

/-- ITS FALSE NEIGHBOUR: 'it returns false'. Refute it at one input. -/
def fnExactGaussOfWrong : ChangeSpec := { name := "fnExactGaussOf", fn := fun _ => fun
  | [d1, d2] => { results := [.lit (.bool false)], args := [d1, d2] }
  | _ => none }
def FnExactGaussOfWrongFalsely : Prop := fnExactGaussOfRow.holds Try.pinned (OpenSpec.ofChange fnExactGaussOfWrong)

/-- 'laws.FnExactArrayOfIdeal': WHATEVER THE INPUT: true; the input reads as it did. -/
def fnExactArrayOfIdealSpec : ChangeSpec := { name := "fnExactArrayOfIdeal", fn := fun _ => fun
  | [d1, d2, d3] => { results := [.lit (.bool true)], args := [d1, d2, d3] }
  | _ => none }
def fnExactArrayOfIdealRow : OpenClaim := { program := "ytioibkdjcmkcpaa", sum := "5f817339159cd9fc92c4e0e4d32cbad9e24ffe0f448af46fa3b62808ae61f125", func := "loop.example/g01138/laws.FnExactArrayOfIdeal", spec := "fnExactArrayOfIdeal", apart := false }
def FnExactArrayOfIdealSaid : Prop := fnExactArrayOfIdealRow.holds Try.pinned (OpenSpec.ofChange fnExactArrayOfIdealSpec)

/-- ITS FALSE NEIGHBOUR: 'it returns false'. Refute it at one input. -/
def fnExactArrayOfIdealWrong : ChangeSpec := { name := "fnExactArrayOfIdeal", fn := fun _ => fun
  | [d1, d2, d3] => { results := [.lit (.bool false)], args := [d1, d2, d3] }
  | _ => none }
def FnExactArrayOfIdealWrongFalsely : Prop := fnExactArrayOfIdealRow.holds Try.pinned (OpenSpec.ofChange fnExactArrayOfIdealWrong)

/-- 'laws.FnExactFromLayers': WHATEVER THE INPUT: true; the input reads as it did. -/
def fnExactFromLayersSpec : ChangeSpec := { name := "fnExactFromLayers", fn := fun _ => fun
  | [d1, d2] => { results := [.lit (.bool true)], args := [d1, d2] }
  | _ => none }
def fnExactFromLayersRow : OpenClaim := { program := "ytioibkdjcmkcpaa", sum := "5f817339159cd9fc92c4e0e4d32cbad9e24ffe0f448af46fa3b62808ae61f125", func := "loop.example/g01138/laws.FnExactFromLayers", spec := "fnExactFromLayers", apart := false }
def FnExactFromLayersSaid : Prop := fnExactFromLayersRow.holds Try.pinned (OpenSpec.ofChange fnExactFromLayersSpec)

/-- ITS FALSE NEIGHBOUR: 'it returns false'. Refute it at one input. -/
def fnExactFromLayersWrong : ChangeSpec := { name := "fnExactFromLayers", fn := fun _ => fun
  | [d1, d2] => { results := [.lit (.bool false)], args := [d1, d2] }
  | _ => none }
def FnExactFromLayersWrongFalsely : Prop := fnExactFromLayersRow.holds Try.pinned (OpenSpec.ofChange fnExactFromLayersWrong)

/-- 'laws.FnExactIdealOfArray': WHATEVER THE INPUT: true; the input reads as it did. -/
def fnExactIdealOfArraySpec : ChangeSpec := { name := "fnExactIdealOfArray", fn := fun _ => fun
  | [d1, d2, d3] => { results := [.lit (.bool true)], args := [d1, d2, d3] }
  | _ => none }
def fnExactIdealOfArrayRow : OpenClaim := { program := "ytioibkdjcmkcpaa", sum := "5f817339159cd9fc92c4e0e4d32cbad9e24ffe0f448af46fa3b62808ae61f125", func := "loop.example/g01138/laws.FnExactIdealOfArray", spec := "fnExactIdealOfArray", apart := false }
def FnExactIdealOfArraySaid : Prop := fnExactIdealOfArrayRow.holds Try.pinned (OpenSpec.ofChange fnExactIdealOfArraySpec)

/-- ITS FALSE NEIGHBOUR: 'it returns false'. Refute it at one input. -/
def fnExactIdealOfArrayWrong : ChangeSpec := { name := "fnExactIdealOfArray", fn := fun _ => fun
  | [d1, d2, d3] => { results := [.lit (.bool false)], args := [d1, d2, d3] }
  | _ => none }
def FnExactIdealOfArrayWrongFalsely : Prop := fnExactIdealOfArrayRow.holds Try.pinned (OpenSpec.ofChange fnExactIdealOfArrayWrong)

/-- 'laws.FnExactRowOnDual': WHATEVER THE INPUT: true; the input reads as it did. -/
def fnExactRowOnDualSpec : ChangeSpec := { name := "fnExactRowOnDual", fn := fun _ => fun
  | [d1, d2] => { results := [.lit (.bool true)], args := [d1, d2] }
  | _ => none }
def fnExactRowOnDualRow : OpenClaim := { program := "ytioibkdjcmkcpaa", sum := "5f817339159cd9fc92c4e0e4d32cbad9e24ffe0f448af46fa3b62808ae61f125", func := "loop.example/g01138/laws.FnExactRowOnDual", spec := "fnExactRowOnDual", apart := false }
def FnExactRowOnDualSaid : Prop := fnExactRowOnDualRow.holds Try.pinned (OpenSpec.ofChange fnExactRowOnDualSpec)

/-- ITS FALSE NEIGHBOUR: 'it returns false'. Refute it at one input. -/
def fnExactRowOnDualWrong : ChangeSpec := { name := "fnExactRowOnDual", fn := fun _ => fun
  | [d1, d2] => { results := [.lit (.bool false)], args := [d1, d2] }
  | _ => none }
def FnExactRowOnDualWrongFalsely : Prop := fnExactRowOnDualRow.holds Try.pinned (OpenSpec.ofChange fnExactRowOnDualWrong)

/-- 'laws.FnExactRowFixed': WHATEVER THE INPUT: true; the input reads as it did. -/
def fnExactRowFixedSpec : ChangeSpec := { name := "fnExactRowFixed", fn := fun _ => fun
  | [d1, d2, d3] => { results := [.lit (.bool true)], args := [d1, d2, d3] }
  | _ => none }
def fnExactRowFixedRow : OpenClaim := { program := "ytioibkdjcmkcpaa", sum := "5f817339159cd9fc92c4e0e4d32cbad9e24ffe0f448af46fa3b62808ae61f125", func := "loop.example/g01138/laws.FnExactRowFixed", spec := "fnExactRowFixed", unfollowed := true, recurses := true, apart := false }
def FnExactRowFixedSaid : Prop := fnExactRowFixedRow.holds Try.pinned (OpenSpec.ofChange fnExactRowFixedSpec)

/-- ITS FALSE NEIGHBOUR: 'it returns false'. Refute it at one input. -/
def fnExactRowFixedWrong : ChangeSpec := { name := "fnExactRowFixed", fn := fun _ => fun
  | [d1, d2, d3] => { results := [.lit (.bool false)], args := [d1, d2, d3] }
  | _ => none }
def FnExactRowFixedWrongFalsely : Prop := fnExactRowFixedRow.holds Try.pinned (OpenSpec.ofChange fnExactRowFixedWrong)

/-- 'laws.FnExactCountArrays': WHATEVER THE INPUT: true; the input reads as it did. -/
def fnExactCountArraysSpec : ChangeSpec := { name := "fnExactCountArrays", fn := fun _ => fun
  | [d1, d2] => { results := [.lit (.bool true)], args := [d1, d2] }
  | _ => none }
def fnExactCountArraysRow : OpenClaim := { program := "ytioibkdjcmkcpaa", sum := "5f817339159cd9fc92c4e0e4d32cbad9e24ffe0f448af46fa3b62808ae61f125", func := "loop.example/g01138/laws.FnExactCountArrays", spec := "fnExactCountArrays", unfollowed := true, recurses := true, apart := false }
def FnExactCountArraysSaid : Prop := fnExactCountArraysRow.holds Try.pinned (OpenSpec.ofChange fnExactCountArraysSpec)

/-- ITS FALSE NEIGHBOUR: 'it returns false'. Refute it at one input. -/
def fnExactCountArraysWrong : ChangeSpec := { name := "fnExactCountArrays", fn := fun _ => fun
  | [d1, d2] => { results := [.lit (.bool false)], args := [d1, d2] }
  | _ => none }
def FnExactCountArraysWrongFalsely : Prop := fnExactCountArraysRow.holds Try.pinned (OpenSpec.ofChange fnExactCountArraysWrong)

/-- 'laws.FnExactRangeAt': WHATEVER THE INPUT: true; the input reads as it did. -/
def fnExactRangeAtSpec : ChangeSpec := { name := "fnExactRangeAt", fn := fun _ => fun
  | [d1, d2, d3, d4] => { results := [.lit (.bool true)], args := [d1, d2, d3, d4] }
  | _ => none }
def fnExactRangeAtRow : OpenClaim := { program := "ytioibkdjcmkcpaa", sum := "5f817339159cd9fc92c4e0e4d32cbad9e24ffe0f448af46fa3b62808ae61f125", func := "loop.example/g01138/laws.FnExactRangeAt", spec := "fnExactRangeAt", apart := false }
def FnExactRangeAtSaid : Prop := fnExactRangeAtRow.holds Try.pinned (OpenSpec.ofChange fnExactRangeAtSpec)

/-- ITS FALSE NEIGHBOUR: 'it returns false'. Refute it at one input. -/
def fnExactRangeAtWrong : ChangeSpec := { name := "fnExactRangeAt", fn := fun _ => fun
  | [d1, d2, d3, d4] => { results := [.lit (.bool false)], args := [d1, d2, d3, d4] }
  | _ => none }
def FnExactRangeAtWrongFalsely : Prop := fnExactRangeAtRow.holds Try.pinned (OpenSpec.ofChange fnExactRangeAtWrong)

/-- 'laws.FnExactLayersOf': WHATEVER THE INPUT: true; the input reads as it did. -/
def fnExactLayersOfSpec : ChangeSpec := { name := "fnExactLayersOf", fn := fun _ => fun
  | [d1, d2, d3] => { results := [.lit (.bool true)], args := [d1, d2, d3] }
  | _ => none }
def fnExactLayersOfRow : OpenClaim := { program := "ytioibkdjcmkcpaa", sum := "5f817339159cd9fc92c4e0e4d32cbad9e24ffe0f448af46fa3b62808ae61f125", func := "loop.example/g01138/laws.FnExactLayersOf", spec := "fnExactLayersOf", apart := false }
def FnExactLayersOfSaid : Prop := fnExactLayersOfRow.holds Try.pinned (OpenSpec.ofChange fnExactLayersOfSpec)

/-- ITS FALSE NEIGHBOUR: 'it returns false'. Refute it at one input. -/
def fnExactLayersOfWrong : ChangeSpec := { name := "fnExactLayersOf", fn := fun _ => fun
  | [d1, d2, d3] => { results := [.lit (.bool false)], args := [d1, d2, d3] }
  | _ => none }
def FnExactLayersOfWrongFalsely : Prop := fnExactLayersOfRow.holds Try.pinned (OpenSpec.ofChange fnExactLayersOfWrong)

/-- 'laws.FnExactMirrorArray': WHATEVER THE INPUT: true; the input reads as it did. -/
def fnExactMirrorArraySpec : ChangeSpec := { name := "fnExactMirrorArray", fn := fun _ => fun
  | [d1, d2, d3] => { results := [.lit (.bool true)], args := [d1, d2, d3] }
  | _ => none }
def fnExactMirrorArrayRow : OpenClaim := { program := "ytioibkdjcmkcpaa", sum := "5f817339159cd9fc92c4e0e4d32cbad9e24ffe0f448af46fa3b62808ae61f125", func := "loop.example/g01138/laws.FnExactMirrorArray", spec := "fnExactMirrorArray", apart := false }
def FnExactMirrorArraySaid : Prop := fnExactMirrorArrayRow.holds Try.pinned (OpenSpec.ofChange fnExactMirrorArraySpec)

/-- ITS FALSE NEIGHBOUR: 'it returns false'. Refute it at one input. -/
def fnExactMirrorArrayWrong : ChangeSpec := { name := "fnExactMirrorArray", fn := fun _ => fun
  | [d1, d2, d3] => { results := [.lit (.bool false)], args := [d1, d2, d3] }
  | _ => none }
def FnExactMirrorArrayWrongFalsely : Prop := fnExactMirrorArrayRow.holds Try.pinned (OpenSpec.ofChange fnExactMirrorArrayWrong)

/- THE SECOND FORM. 'bulk': how many values and letters a reading holds, each counted each time it is reached (what is shared counts as often as it is met; a slice's spare places count too). A statement '..UptoSaid' is the law's where the arguments, and the package variables that the reading takes, are together of bulk at most 1048576: NARROWER than '..Said'. Prove '..Said' where nothing that the law and all that it calls make is longer than what came in: it says more and counts as full. Else prove '..UptoSaid'. A law counts once. -/
mutual
def uptoBulk {H : Type} : DataW H → Nat
  | .lit (.string bytes) => bytes.length + 1
  | .lit _ => 1
  | .nil => 1
  | .ptr d => uptoBulk d + 1
  | .slice elems spare => uptoBulkAll elems + uptoBulkAll spare + 1
  | .agg parts => uptoBulkAll parts + 1
  | .iface _ d => uptoBulk d + 1
  | .map entries => uptoBulkEntries entries + 1
  | .held _ => 1
def uptoBulkAll {H : Type} : List (DataW H) → Nat
  | [] => 0
  | d :: r => uptoBulk d + uptoBulkAll r
def uptoBulkEntries {H : Type} : List (Lit × DataW H) → Nat
  | [] => 0
  | x :: r => uptoBulkEntry x + uptoBulkEntries r
def uptoBulkEntry {H : Type} : Lit × DataW H → Nat
  | (.string bytes, d) => bytes.length + uptoBulk d + 1
  | (_, d) => uptoBulk d + 1
 end
def uptoSmall : (H : Type) → List (DataW H) → Bool := fun _ ds => decide (uptoBulkAll ds ≤ 1048576)
def OpenSpec.upto (s : _root_.Go.ChangeSpec) : _root_.Go.OpenSpec := { _root_.Go.OpenSpec.ofChange s with cond := some uptoSmall }

/-- 'laws.FnExactIsArray', WHERE WHAT IT READS IS OF BULK AT MOST 1048576: true; the input reads as it did. -/
def fnExactIsArrayUptoRow : OpenClaim := { program := "ytioibkdjcmkcpaa", sum := "5f817339159cd9fc92c4e0e4d32cbad9e24ffe0f448af46fa3b62808ae61f125", func := "loop.example/g01138/laws.FnExactIsArray", spec := "fnExactIsArray", apart := false, narrowed := true }
def FnExactIsArrayUptoSaid : Prop := fnExactIsArrayUptoRow.holds Try.pinned (OpenSpec.upto fnExactIsArraySpec)

/-- 'laws.FnExactValueByRemainders', WHERE WHAT IT READS IS OF BULK AT MOST 1048576: true; the input reads as it did. -/
def fnExactValueByRemaindersUptoRow : OpenClaim := { program := "ytioibkdjcmkcpaa", sum := "5f817339159cd9fc92c4e0e4d32cbad9e24ffe0f448af46fa3b62808ae61f125", func := "loop.example/g01138/laws.FnExactValueByRemainders", spec := "fnExactValueByRemainders", unfollowed := true, recurses := true, apart := false, narrowed := true }
def FnExactValueByRemaindersUptoSaid : Prop := fnExactValueByRemaindersUptoRow.holds Try.pinned (OpenSpec.upto fnExactValueByRemaindersSpec)

/-- 'laws.FnExactGaussOf', WHERE WHAT IT READS IS OF BULK AT MOST 1048576: true; the input reads as it did. -/
def fnExactGaussOfUptoRow : OpenClaim := { program := "ytioibkdjcmkcpaa", sum := "5f817339159cd9fc92c4e0e4d32cbad9e24ffe0f448af46fa3b62808ae61f125", func := "loop.example/g01138/laws.FnExactGaussOf", spec := "fnExactGaussOf", unfollowed := true, recurses := true, apart := false, narrowed := true }
def FnExactGaussOfUptoSaid : Prop := fnExactGaussOfUptoRow.holds Try.pinned (OpenSpec.upto fnExactGaussOfSpec)

/-- 'laws.FnExactArrayOfIdeal', WHERE WHAT IT READS IS OF BULK AT MOST 1048576: true; the input reads as it did. -/
def fnExactArrayOfIdealUptoRow : OpenClaim := { program := "ytioibkdjcmkcpaa", sum := "5f817339159cd9fc92c4e0e4d32cbad9e24ffe0f448af46fa3b62808ae61f125", func := "loop.example/g01138/laws.FnExactArrayOfIdeal", spec := "fnExactArrayOfIdeal", apart := false, narrowed := true }
def FnExactArrayOfIdealUptoSaid : Prop := fnExactArrayOfIdealUptoRow.holds Try.pinned (OpenSpec.upto fnExactArrayOfIdealSpec)

/-- 'laws.FnExactFromLayers', WHERE WHAT IT READS IS OF BULK AT MOST 1048576: true; the input reads as it did. -/
def fnExactFromLayersUptoRow : OpenClaim := { program := "ytioibkdjcmkcpaa", sum := "5f817339159cd9fc92c4e0e4d32cbad9e24ffe0f448af46fa3b62808ae61f125", func := "loop.example/g01138/laws.FnExactFromLayers", spec := "fnExactFromLayers", apart := false, narrowed := true }
def FnExactFromLayersUptoSaid : Prop := fnExactFromLayersUptoRow.holds Try.pinned (OpenSpec.upto fnExactFromLayersSpec)

/-- 'laws.FnExactIdealOfArray', WHERE WHAT IT READS IS OF BULK AT MOST 1048576: true; the input reads as it did. -/
def fnExactIdealOfArrayUptoRow : OpenClaim := { program := "ytioibkdjcmkcpaa", sum := "5f817339159cd9fc92c4e0e4d32cbad9e24ffe0f448af46fa3b62808ae61f125", func := "loop.example/g01138/laws.FnExactIdealOfArray", spec := "fnExactIdealOfArray", apart := false, narrowed := true }
def FnExactIdealOfArrayUptoSaid : Prop := fnExactIdealOfArrayUptoRow.holds Try.pinned (OpenSpec.upto fnExactIdealOfArraySpec)

/-- 'laws.FnExactRowOnDual', WHERE WHAT IT READS IS OF BULK AT MOST 1048576: true; the input reads as it did. -/
def fnExactRowOnDualUptoRow : OpenClaim := { program := "ytioibkdjcmkcpaa", sum := "5f817339159cd9fc92c4e0e4d32cbad9e24ffe0f448af46fa3b62808ae61f125", func := "loop.example/g01138/laws.FnExactRowOnDual", spec := "fnExactRowOnDual", apart := false, narrowed := true }
def FnExactRowOnDualUptoSaid : Prop := fnExactRowOnDualUptoRow.holds Try.pinned (OpenSpec.upto fnExactRowOnDualSpec)

/-- 'laws.FnExactRowFixed', WHERE WHAT IT READS IS OF BULK AT MOST 1048576: true; the input reads as it did. -/
def fnExactRowFixedUptoRow : OpenClaim := { program := "ytioibkdjcmkcpaa", sum := "5f817339159cd9fc92c4e0e4d32cbad9e24ffe0f448af46fa3b62808ae61f125", func := "loop.example/g01138/laws.FnExactRowFixed", spec := "fnExactRowFixed", unfollowed := true, recurses := true, apart := false, narrowed := true }
def FnExactRowFixedUptoSaid : Prop := fnExactRowFixedUptoRow.holds Try.pinned (OpenSpec.upto fnExactRowFixedSpec)

/-- 'laws.FnExactCountArrays', WHERE WHAT IT READS IS OF BULK AT MOST 1048576: true; the input reads as it did. -/
def fnExactCountArraysUptoRow : OpenClaim := { program := "ytioibkdjcmkcpaa", sum := "5f817339159cd9fc92c4e0e4d32cbad9e24ffe0f448af46fa3b62808ae61f125", func := "loop.example/g01138/laws.FnExactCountArrays", spec := "fnExactCountArrays", unfollowed := true, recurses := true, apart := false, narrowed := true }
def FnExactCountArraysUptoSaid : Prop := fnExactCountArraysUptoRow.holds Try.pinned (OpenSpec.upto fnExactCountArraysSpec)

/-- 'laws.FnExactRangeAt', WHERE WHAT IT READS IS OF BULK AT MOST 1048576: true; the input reads as it did. -/
def fnExactRangeAtUptoRow : OpenClaim := { program := "ytioibkdjcmkcpaa", sum := "5f817339159cd9fc92c4e0e4d32cbad9e24ffe0f448af46fa3b62808ae61f125", func := "loop.example/g01138/laws.FnExactRangeAt", spec := "fnExactRangeAt", apart := false, narrowed := true }
def FnExactRangeAtUptoSaid : Prop := fnExactRangeAtUptoRow.holds Try.pinned (OpenSpec.upto fnExactRangeAtSpec)

/-- 'laws.FnExactLayersOf', WHERE WHAT IT READS IS OF BULK AT MOST 1048576: true; the input reads as it did. -/
def fnExactLayersOfUptoRow : OpenClaim := { program := "ytioibkdjcmkcpaa", sum := "5f817339159cd9fc92c4e0e4d32cbad9e24ffe0f448af46fa3b62808ae61f125", func := "loop.example/g01138/laws.FnExactLayersOf", spec := "fnExactLayersOf", apart := false, narrowed := true }
def FnExactLayersOfUptoSaid : Prop := fnExactLayersOfUptoRow.holds Try.pinned (OpenSpec.upto fnExactLayersOfSpec)

/-- 'laws.FnExactMirrorArray', WHERE WHAT IT READS IS OF BULK AT MOST 1048576: true; the input reads as it did. -/
def fnExactMirrorArrayUptoRow : OpenClaim := { program := "ytioibkdjcmkcpaa", sum := "5f817339159cd9fc92c4e0e4d32cbad9e24ffe0f448af46fa3b62808ae61f125", func := "loop.example/g01138/laws.FnExactMirrorArray", spec := "fnExactMirrorArray", apart := false, narrowed := true }
def FnExactMirrorArrayUptoSaid : Prop := fnExactMirrorArrayUptoRow.holds Try.pinned (OpenSpec.upto fnExactMirrorArraySpec)

end Rows
end Go.Proofs.Ytioibkdjcmkcpaa
