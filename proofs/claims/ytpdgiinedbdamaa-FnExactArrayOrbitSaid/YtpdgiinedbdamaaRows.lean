/-
  No cell of these rows narrows 'for every input' (looked for: loops, veiled, ifaces, maps, wideKeys, modest, calm, conditions, laid).
  DERIVED. THE GIVEN ROWS OF THIS SEAT. 11 by the template 'for every input the law returns true; each argument reads behind the call as it read before'; 0 by the template 'total and deterministic' (their statements: YtpdgiinedbdamaaTotals.lean).
  GIVEN WITH THE SEED: the statements are not yours to turn. If you find one false, say at which input.
  Laid BY PROGRAM, IN A SANDBOX (cutbox-rows.mjs): the forced cells as the released guide's own fill.sh prints them over the translation 0978d4a5a613cf43… (all of the seat's roots in one cut). By AI agents, Wed Nov 11 2026. No macro, syntax, notation, axiom, sorry.
-/
import Derived.Test.YtpdgiinedbdamaaChecked
import GoSem.Claim
import GoSem.ClaimJoined
import GoSem.ClaimMapViews
import Derived.JoinedTies
import Derived.KernelRfl
namespace Go.Proofs.Ytpdgiinedbdamaa
/- THE CELL 'sum', in the pinned program and in every row, IS THE sha256 OF THE DUMP (.gsa) THAT YtpdgiinedbdamaaProg.lean LOADS. Nothing in Lean hashes anything: it is a label: what it is worth is what the hold of that sum in a sandbox is worth. -/
noncomputable def Try.pinned : Pinned := { name := "ytpdgiinedbdamaa", sum := "0978d4a5a613cf43f51127a63e2dad60141e8d19ac8352191798df6d6c3dc593", checked := Try.checked }
namespace Rows
def none {H : Type} : Left H := { results := [], args := [] }

/-- 'laws.FnExactGyrateIdeal': WHATEVER THE INPUT: true; the input reads as it did. -/
def fnExactGyrateIdealSpec : ChangeSpec := { name := "fnExactGyrateIdeal", fn := fun _ => fun
  | [d1, d2] => { results := [.lit (.bool true)], args := [d1, d2] }
  | _ => none }
def fnExactGyrateIdealRow : OpenClaim := { program := "ytpdgiinedbdamaa", sum := "0978d4a5a613cf43f51127a63e2dad60141e8d19ac8352191798df6d6c3dc593", func := "loop.example/g01138/laws.FnExactGyrateIdeal", spec := "fnExactGyrateIdeal", unfollowed := true, recurses := true, plainKeys := false, apart := false }
def FnExactGyrateIdealSaid : Prop := fnExactGyrateIdealRow.holds Try.pinned (OpenSpec.ofChange fnExactGyrateIdealSpec)

/-- ITS FALSE NEIGHBOUR: 'it returns false'. Refute it at one input. -/
def fnExactGyrateIdealWrong : ChangeSpec := { name := "fnExactGyrateIdeal", fn := fun _ => fun
  | [d1, d2] => { results := [.lit (.bool false)], args := [d1, d2] }
  | _ => none }
def FnExactGyrateIdealWrongFalsely : Prop := fnExactGyrateIdealRow.holds Try.pinned (OpenSpec.ofChange fnExactGyrateIdealWrong)

/-- 'laws.FnExactArrayOrbit': WHATEVER THE INPUT: true; the input reads as it did. -/
def fnExactArrayOrbitSpec : ChangeSpec := { name := "fnExactArrayOrbit", fn := fun _ => fun
  | [d1, d2, d3] => { results := [.lit (.bool true)], args := [d1, d2, d3] }
  | _ => none }
def fnExactArrayOrbitRow : OpenClaim := { program := "ytpdgiinedbdamaa", sum := "0978d4a5a613cf43f51127a63e2dad60141e8d19ac8352191798df6d6c3dc593", func := "loop.example/g01138/laws.FnExactArrayOrbit", spec := "fnExactArrayOrbit", plainKeys := false, apart := false }
def FnExactArrayOrbitSaid : Prop := fnExactArrayOrbitRow.holds Try.pinned (OpenSpec.ofChange fnExactArrayOrbitSpec)

/-- ITS FALSE NEIGHBOUR: 'it returns false'. Refute it at one input. -/
def fnExactArrayOrbitWrong : ChangeSpec := { name := "fnExactArrayOrbit", fn := fun _ => fun
  | [d1, d2, d3] => { results := [.lit (.bool false)], args := [d1, d2, d3] }
  | _ => none }
def FnExactArrayOrbitWrongFalsely : Prop := fnExactArrayOrbitRow.holds Try.pinned (OpenSpec.ofChange fnExactArrayOrbitWrong)

/-- 'laws.FnExactRowvacuation': WHATEVER THE INPUT: true; the input reads as it did. -/
def fnExactRowvacuationSpec : ChangeSpec := { name := "fnExactRowvacuation", fn := fun _ => fun
  | [d1, d2] => { results := [.lit (.bool true)], args := [d1, d2] }
  | _ => none }
def fnExactRowvacuationRow : OpenClaim := { program := "ytpdgiinedbdamaa", sum := "0978d4a5a613cf43f51127a63e2dad60141e8d19ac8352191798df6d6c3dc593", func := "loop.example/g01138/laws.FnExactRowvacuation", spec := "fnExactRowvacuation", unfollowed := true, recurses := true, plainKeys := false, apart := false }
def FnExactRowvacuationSaid : Prop := fnExactRowvacuationRow.holds Try.pinned (OpenSpec.ofChange fnExactRowvacuationSpec)

/-- ITS FALSE NEIGHBOUR: 'it returns false'. Refute it at one input. -/
def fnExactRowvacuationWrong : ChangeSpec := { name := "fnExactRowvacuation", fn := fun _ => fun
  | [d1, d2] => { results := [.lit (.bool false)], args := [d1, d2] }
  | _ => none }
def FnExactRowvacuationWrongFalsely : Prop := fnExactRowvacuationRow.holds Try.pinned (OpenSpec.ofChange fnExactRowvacuationWrong)

/-- 'laws.FnExactDualRowvacuation': WHATEVER THE INPUT: true; the input reads as it did. -/
def fnExactDualRowvacuationSpec : ChangeSpec := { name := "fnExactDualRowvacuation", fn := fun _ => fun
  | [d1, d2] => { results := [.lit (.bool true)], args := [d1, d2] }
  | _ => none }
def fnExactDualRowvacuationRow : OpenClaim := { program := "ytpdgiinedbdamaa", sum := "0978d4a5a613cf43f51127a63e2dad60141e8d19ac8352191798df6d6c3dc593", func := "loop.example/g01138/laws.FnExactDualRowvacuation", spec := "fnExactDualRowvacuation", unfollowed := true, recurses := true, plainKeys := false, apart := false }
def FnExactDualRowvacuationSaid : Prop := fnExactDualRowvacuationRow.holds Try.pinned (OpenSpec.ofChange fnExactDualRowvacuationSpec)

/-- ITS FALSE NEIGHBOUR: 'it returns false'. Refute it at one input. -/
def fnExactDualRowvacuationWrong : ChangeSpec := { name := "fnExactDualRowvacuation", fn := fun _ => fun
  | [d1, d2] => { results := [.lit (.bool false)], args := [d1, d2] }
  | _ => none }
def FnExactDualRowvacuationWrongFalsely : Prop := fnExactDualRowvacuationRow.holds Try.pinned (OpenSpec.ofChange fnExactDualRowvacuationWrong)

/-- 'laws.FnExactGyrateBack': WHATEVER THE INPUT: true; the input reads as it did. -/
def fnExactGyrateBackSpec : ChangeSpec := { name := "fnExactGyrateBack", fn := fun _ => fun
  | [d1, d2] => { results := [.lit (.bool true)], args := [d1, d2] }
  | _ => none }
def fnExactGyrateBackRow : OpenClaim := { program := "ytpdgiinedbdamaa", sum := "0978d4a5a613cf43f51127a63e2dad60141e8d19ac8352191798df6d6c3dc593", func := "loop.example/g01138/laws.FnExactGyrateBack", spec := "fnExactGyrateBack", unfollowed := true, recurses := true, plainKeys := false, apart := false }
def FnExactGyrateBackSaid : Prop := fnExactGyrateBackRow.holds Try.pinned (OpenSpec.ofChange fnExactGyrateBackSpec)

/-- ITS FALSE NEIGHBOUR: 'it returns false'. Refute it at one input. -/
def fnExactGyrateBackWrong : ChangeSpec := { name := "fnExactGyrateBack", fn := fun _ => fun
  | [d1, d2] => { results := [.lit (.bool false)], args := [d1, d2] }
  | _ => none }
def FnExactGyrateBackWrongFalsely : Prop := fnExactGyrateBackRow.holds Try.pinned (OpenSpec.ofChange fnExactGyrateBackWrong)

/-- 'laws.FnExactPromotionFixed': WHATEVER THE INPUT: true; the input reads as it did. -/
def fnExactPromotionFixedSpec : ChangeSpec := { name := "fnExactPromotionFixed", fn := fun _ => fun
  | [d1, d2, d3] => { results := [.lit (.bool true)], args := [d1, d2, d3] }
  | _ => none }
def fnExactPromotionFixedRow : OpenClaim := { program := "ytpdgiinedbdamaa", sum := "0978d4a5a613cf43f51127a63e2dad60141e8d19ac8352191798df6d6c3dc593", func := "loop.example/g01138/laws.FnExactPromotionFixed", spec := "fnExactPromotionFixed", unfollowed := true, recurses := true, plainKeys := false, apart := false }
def FnExactPromotionFixedSaid : Prop := fnExactPromotionFixedRow.holds Try.pinned (OpenSpec.ofChange fnExactPromotionFixedSpec)

/-- ITS FALSE NEIGHBOUR: 'it returns false'. Refute it at one input. -/
def fnExactPromotionFixedWrong : ChangeSpec := { name := "fnExactPromotionFixed", fn := fun _ => fun
  | [d1, d2, d3] => { results := [.lit (.bool false)], args := [d1, d2, d3] }
  | _ => none }
def FnExactPromotionFixedWrongFalsely : Prop := fnExactPromotionFixedRow.holds Try.pinned (OpenSpec.ofChange fnExactPromotionFixedWrong)

/-- 'laws.FnExactFixedByRowvacuation': WHATEVER THE INPUT: true; the input reads as it did. -/
def fnExactFixedByRowvacuationSpec : ChangeSpec := { name := "fnExactFixedByRowvacuation", fn := fun _ => fun
  | [d] => { results := [.lit (.bool true)], args := [d] }
  | _ => none }
def fnExactFixedByRowvacuationRow : OpenClaim := { program := "ytpdgiinedbdamaa", sum := "0978d4a5a613cf43f51127a63e2dad60141e8d19ac8352191798df6d6c3dc593", func := "loop.example/g01138/laws.FnExactFixedByRowvacuation", spec := "fnExactFixedByRowvacuation", unfollowed := true, recurses := true, plainKeys := false, apart := false }
def FnExactFixedByRowvacuationSaid : Prop := fnExactFixedByRowvacuationRow.holds Try.pinned (OpenSpec.ofChange fnExactFixedByRowvacuationSpec)

/-- ITS FALSE NEIGHBOUR: 'it returns false'. Refute it at one input. -/
def fnExactFixedByRowvacuationWrong : ChangeSpec := { name := "fnExactFixedByRowvacuation", fn := fun _ => fun
  | [d] => { results := [.lit (.bool false)], args := [d] }
  | _ => none }
def FnExactFixedByRowvacuationWrongFalsely : Prop := fnExactFixedByRowvacuationRow.holds Try.pinned (OpenSpec.ofChange fnExactFixedByRowvacuationWrong)

/-- 'laws.FnExactRowStabilizers': WHATEVER THE INPUT: true; the input reads as it did. -/
def fnExactRowStabilizersSpec : ChangeSpec := { name := "fnExactRowStabilizers", fn := fun _ => fun
  | [d1, d2] => { results := [.lit (.bool true)], args := [d1, d2] }
  | _ => none }
def fnExactRowStabilizersRow : OpenClaim := { program := "ytpdgiinedbdamaa", sum := "0978d4a5a613cf43f51127a63e2dad60141e8d19ac8352191798df6d6c3dc593", func := "loop.example/g01138/laws.FnExactRowStabilizers", spec := "fnExactRowStabilizers", unfollowed := true, recurses := true, plainKeys := false, apart := false }
def FnExactRowStabilizersSaid : Prop := fnExactRowStabilizersRow.holds Try.pinned (OpenSpec.ofChange fnExactRowStabilizersSpec)

/-- ITS FALSE NEIGHBOUR: 'it returns false'. Refute it at one input. -/
def fnExactRowStabilizersWrong : ChangeSpec := { name := "fnExactRowStabilizers", fn := fun _ => fun
  | [d1, d2] => { results := [.lit (.bool false)], args := [d1, d2] }
  | _ => none }
def FnExactRowStabilizersWrongFalsely : Prop := fnExactRowStabilizersRow.holds Try.pinned (OpenSpec.ofChange fnExactRowStabilizersWrong)

/-- 'laws.FnExactSortedLengths': WHATEVER THE INPUT: true; the input reads as it did. -/
def fnExactSortedLengthsSpec : ChangeSpec := { name := "fnExactSortedLengths", fn := fun _ => fun
  | [d] => { results := [.lit (.bool true)], args := [d] }
  | _ => none }
def fnExactSortedLengthsRow : OpenClaim := { program := "ytpdgiinedbdamaa", sum := "0978d4a5a613cf43f51127a63e2dad60141e8d19ac8352191798df6d6c3dc593", func := "loop.example/g01138/laws.FnExactSortedLengths", spec := "fnExactSortedLengths", unfollowed := true, recurses := true, plainKeys := false, apart := false }
def FnExactSortedLengthsSaid : Prop := fnExactSortedLengthsRow.holds Try.pinned (OpenSpec.ofChange fnExactSortedLengthsSpec)

/-- ITS FALSE NEIGHBOUR: 'it returns false'. Refute it at one input. -/
def fnExactSortedLengthsWrong : ChangeSpec := { name := "fnExactSortedLengths", fn := fun _ => fun
  | [d] => { results := [.lit (.bool false)], args := [d] }
  | _ => none }
def FnExactSortedLengthsWrongFalsely : Prop := fnExactSortedLengthsRow.holds Try.pinned (OpenSpec.ofChange fnExactSortedLengthsWrong)

/-- 'laws.FnExactGyrationLengths': WHATEVER THE INPUT: true; the input reads as it did. -/
def fnExactGyrationLengthsSpec : ChangeSpec := { name := "fnExactGyrationLengths", fn := fun _ => fun
  | [d] => { results := [.lit (.bool true)], args := [d] }
  | _ => none }
def fnExactGyrationLengthsRow : OpenClaim := { program := "ytpdgiinedbdamaa", sum := "0978d4a5a613cf43f51127a63e2dad60141e8d19ac8352191798df6d6c3dc593", func := "loop.example/g01138/laws.FnExactGyrationLengths", spec := "fnExactGyrationLengths", unfollowed := true, recurses := true, plainKeys := false, apart := false }
def FnExactGyrationLengthsSaid : Prop := fnExactGyrationLengthsRow.holds Try.pinned (OpenSpec.ofChange fnExactGyrationLengthsSpec)

/-- ITS FALSE NEIGHBOUR: 'it returns false'. Refute it at one input. -/
def fnExactGyrationLengthsWrong : ChangeSpec := { name := "fnExactGyrationLengths", fn := fun _ => fun
  | [d] => { results := [.lit (.bool false)], args := [d] }
  | _ => none }
def FnExactGyrationLengthsWrongFalsely : Prop := fnExactGyrationLengthsRow.holds Try.pinned (OpenSpec.ofChange fnExactGyrationLengthsWrong)

/-- 'laws.FnExactPromotionStabilizers': WHATEVER THE INPUT: true; the input reads as it did. -/
def fnExactPromotionStabilizersSpec : ChangeSpec := { name := "fnExactPromotionStabilizers", fn := fun _ => fun
  | [d1, d2] => { results := [.lit (.bool true)], args := [d1, d2] }
  | _ => none }
def fnExactPromotionStabilizersRow : OpenClaim := { program := "ytpdgiinedbdamaa", sum := "0978d4a5a613cf43f51127a63e2dad60141e8d19ac8352191798df6d6c3dc593", func := "loop.example/g01138/laws.FnExactPromotionStabilizers", spec := "fnExactPromotionStabilizers", unfollowed := true, recurses := true, plainKeys := false, apart := false }
def FnExactPromotionStabilizersSaid : Prop := fnExactPromotionStabilizersRow.holds Try.pinned (OpenSpec.ofChange fnExactPromotionStabilizersSpec)

/-- ITS FALSE NEIGHBOUR: 'it returns false'. Refute it at one input. -/
def fnExactPromotionStabilizersWrong : ChangeSpec := { name := "fnExactPromotionStabilizers", fn := fun _ => fun
  | [d1, d2] => { results := [.lit (.bool false)], args := [d1, d2] }
  | _ => none }
def FnExactPromotionStabilizersWrongFalsely : Prop := fnExactPromotionStabilizersRow.holds Try.pinned (OpenSpec.ofChange fnExactPromotionStabilizersWrong)

/- THE SECOND FORM. 'bulk': how many values and letters a reading holds, each counted each time it is reached (what is shared counts as often as it is met; a slice's spare places count too). A statement '..UptoSaid' is the law's where the arguments, and the package variables that the reading takes, are together of bulk at most 1048576: NARROWER than '..Said'. Prove '..Said' where nothing that the law and all that it calls make is longer than what came in: it says more and counts as full. Else prove '..UptoSaid'. A law counts once. -/
mutual
def uptoBulk {H : Type} : DataW H → Nat
  | .lit (.string bytes) => bytes.length + 1
  | .lit _ => 1
  | .nil => 1
  | .ptr d => uptoBulk d + 1
  | .slice elems spare => uptoBulkAll elems + uptoBulkAll spare + 1
  | .agg parts => uptoBulkAll parts + 1
  | .iface _ d => uptoBulk d + 1
  | .map entries => uptoBulkEntries entries + 1
  | .held _ => 1
def uptoBulkAll {H : Type} : List (DataW H) → Nat
  | [] => 0
  | d :: r => uptoBulk d + uptoBulkAll r
def uptoBulkEntries {H : Type} : List (Lit × DataW H) → Nat
  | [] => 0
  | x :: r => uptoBulkEntry x + uptoBulkEntries r
def uptoBulkEntry {H : Type} : Lit × DataW H → Nat
  | (.string bytes, d) => bytes.length + uptoBulk d + 1
  | (_, d) => uptoBulk d + 1
 end
def uptoSmall : (H : Type) → List (DataW H) → Bool := fun _ ds => decide (uptoBulkAll ds ≤ 1048576)
def OpenSpec.upto (s : _root_.Go.ChangeSpec) : _root_.Go.OpenSpec := { _root_.Go.OpenSpec.ofChange s with cond := some uptoSmall }

/-- 'laws.FnExactGyrateIdeal', WHERE WHAT IT READS IS OF BULK AT MOST 1048576: true; the input reads as it did. -/
def fnExactGyrateIdealUptoRow : OpenClaim := { program := "ytpdgiinedbdamaa", sum := "0978d4a5a613cf43f51127a63e2dad60141e8d19ac8352191798df6d6c3dc593", func := "loop.example/g01138/laws.FnExactGyrateIdeal", spec := "fnExactGyrateIdeal", unfollowed := true, recurses := true, plainKeys := false, apart := false, narrowed := true }
def FnExactGyrateIdealUptoSaid : Prop := fnExactGyrateIdealUptoRow.holds Try.pinned (OpenSpec.upto fnExactGyrateIdealSpec)

/-- 'laws.FnExactArrayOrbit', WHERE WHAT IT READS IS OF BULK AT MOST 1048576: true; the input reads as it did. -/
def fnExactArrayOrbitUptoRow : OpenClaim := { program := "ytpdgiinedbdamaa", sum := "0978d4a5a613cf43f51127a63e2dad60141e8d19ac8352191798df6d6c3dc593", func := "loop.example/g01138/laws.FnExactArrayOrbit", spec := "fnExactArrayOrbit", plainKeys := false, apart := false, narrowed := true }
def FnExactArrayOrbitUptoSaid : Prop := fnExactArrayOrbitUptoRow.holds Try.pinned (OpenSpec.upto fnExactArrayOrbitSpec)

/-- 'laws.FnExactRowvacuation', WHERE WHAT IT READS IS OF BULK AT MOST 1048576: true; the input reads as it did. -/
def fnExactRowvacuationUptoRow : OpenClaim := { program := "ytpdgiinedbdamaa", sum := "0978d4a5a613cf43f51127a63e2dad60141e8d19ac8352191798df6d6c3dc593", func := "loop.example/g01138/laws.FnExactRowvacuation", spec := "fnExactRowvacuation", unfollowed := true, recurses := true, plainKeys := false, apart := false, narrowed := true }
def FnExactRowvacuationUptoSaid : Prop := fnExactRowvacuationUptoRow.holds Try.pinned (OpenSpec.upto fnExactRowvacuationSpec)

/-- 'laws.FnExactDualRowvacuation', WHERE WHAT IT READS IS OF BULK AT MOST 1048576: true; the input reads as it did. -/
def fnExactDualRowvacuationUptoRow : OpenClaim := { program := "ytpdgiinedbdamaa", sum := "0978d4a5a613cf43f51127a63e2dad60141e8d19ac8352191798df6d6c3dc593", func := "loop.example/g01138/laws.FnExactDualRowvacuation", spec := "fnExactDualRowvacuation", unfollowed := true, recurses := true, plainKeys := false, apart := false, narrowed := true }
def FnExactDualRowvacuationUptoSaid : Prop := fnExactDualRowvacuationUptoRow.holds Try.pinned (OpenSpec.upto fnExactDualRowvacuationSpec)

/-- 'laws.FnExactGyrateBack', WHERE WHAT IT READS IS OF BULK AT MOST 1048576: true; the input reads as it did. -/
def fnExactGyrateBackUptoRow : OpenClaim := { program := "ytpdgiinedbdamaa", sum := "0978d4a5a613cf43f51127a63e2dad60141e8d19ac8352191798df6d6c3dc593", func := "loop.example/g01138/laws.FnExactGyrateBack", spec := "fnExactGyrateBack", unfollowed := true, recurses := true, plainKeys := false, apart := false, narrowed := true }
def FnExactGyrateBackUptoSaid : Prop := fnExactGyrateBackUptoRow.holds Try.pinned (OpenSpec.upto fnExactGyrateBackSpec)

/-- 'laws.FnExactPromotionFixed', WHERE WHAT IT READS IS OF BULK AT MOST 1048576: true; the input reads as it did. -/
def fnExactPromotionFixedUptoRow : OpenClaim := { program := "ytpdgiinedbdamaa", sum := "0978d4a5a613cf43f51127a63e2dad60141e8d19ac8352191798df6d6c3dc593", func := "loop.example/g01138/laws.FnExactPromotionFixed", spec := "fnExactPromotionFixed", unfollowed := true, recurses := true, plainKeys := false, apart := false, narrowed := true }
def FnExactPromotionFixedUptoSaid : Prop := fnExactPromotionFixedUptoRow.holds Try.pinned (OpenSpec.upto fnExactPromotionFixedSpec)

/-- 'laws.FnExactFixedByRowvacuation', WHERE WHAT IT READS IS OF BULK AT MOST 1048576: true; the input reads as it did. -/
def fnExactFixedByRowvacuationUptoRow : OpenClaim := { program := "ytpdgiinedbdamaa", sum := "0978d4a5a613cf43f51127a63e2dad60141e8d19ac8352191798df6d6c3dc593", func := "loop.example/g01138/laws.FnExactFixedByRowvacuation", spec := "fnExactFixedByRowvacuation", unfollowed := true, recurses := true, plainKeys := false, apart := false, narrowed := true }
def FnExactFixedByRowvacuationUptoSaid : Prop := fnExactFixedByRowvacuationUptoRow.holds Try.pinned (OpenSpec.upto fnExactFixedByRowvacuationSpec)

/-- 'laws.FnExactRowStabilizers', WHERE WHAT IT READS IS OF BULK AT MOST 1048576: true; the input reads as it did. -/
def fnExactRowStabilizersUptoRow : OpenClaim := { program := "ytpdgiinedbdamaa", sum := "0978d4a5a613cf43f51127a63e2dad60141e8d19ac8352191798df6d6c3dc593", func := "loop.example/g01138/laws.FnExactRowStabilizers", spec := "fnExactRowStabilizers", unfollowed := true, recurses := true, plainKeys := false, apart := false, narrowed := true }
def FnExactRowStabilizersUptoSaid : Prop := fnExactRowStabilizersUptoRow.holds Try.pinned (OpenSpec.upto fnExactRowStabilizersSpec)

/-- 'laws.FnExactSortedLengths', WHERE WHAT IT READS IS OF BULK AT MOST 1048576: true; the input reads as it did. -/
def fnExactSortedLengthsUptoRow : OpenClaim := { program := "ytpdgiinedbdamaa", sum := "0978d4a5a613cf43f51127a63e2dad60141e8d19ac8352191798df6d6c3dc593", func := "loop.example/g01138/laws.FnExactSortedLengths", spec := "fnExactSortedLengths", unfollowed := true, recurses := true, plainKeys := false, apart := false, narrowed := true }
def FnExactSortedLengthsUptoSaid : Prop := fnExactSortedLengthsUptoRow.holds Try.pinned (OpenSpec.upto fnExactSortedLengthsSpec)

/-- 'laws.FnExactGyrationLengths', WHERE WHAT IT READS IS OF BULK AT MOST 1048576: true; the input reads as it did. -/
def fnExactGyrationLengthsUptoRow : OpenClaim := { program := "ytpdgiinedbdamaa", sum := "0978d4a5a613cf43f51127a63e2dad60141e8d19ac8352191798df6d6c3dc593", func := "loop.example/g01138/laws.FnExactGyrationLengths", spec := "fnExactGyrationLengths", unfollowed := true, recurses := true, plainKeys := false, apart := false, narrowed := true }
def FnExactGyrationLengthsUptoSaid : Prop := fnExactGyrationLengthsUptoRow.holds Try.pinned (OpenSpec.upto fnExactGyrationLengthsSpec)

/-- 'laws.FnExactPromotionStabilizers', WHERE WHAT IT READS IS OF BULK AT MOST 1048576: true; the input reads as it did. -/
def fnExactPromotionStabilizersUptoRow : OpenClaim := { program := "ytpdgiinedbdamaa", sum := "0978d4a5a613cf43f51127a63e2dad60141e8d19ac8352191798df6d6c3dc593", func := "loop.example/g01138/laws.FnExactPromotionStabilizers", spec := "fnExactPromotionStabilizers", unfollowed := true, recurses := true, plainKeys := false, apart := false, narrowed := true }
def FnExactPromotionStabilizersUptoSaid : Prop := fnExactPromotionStabilizersUptoRow.holds Try.pinned (OpenSpec.upto fnExactPromotionStabilizersSpec)

end Rows
end Go.Proofs.Ytpdgiinedbdamaa
