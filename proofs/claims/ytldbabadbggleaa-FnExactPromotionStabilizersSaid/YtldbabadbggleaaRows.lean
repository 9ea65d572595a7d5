/-
  No cell of these rows narrows 'for every input' (looked for: loops, veiled, ifaces, maps, wideKeys, modest, calm, conditions, laid).
  DERIVED. THE GIVEN ROWS OF THIS SEAT. 4 by the template 'for every input the law returns true; each argument reads behind the call as it read before'; 0 by the template 'total and deterministic' (their statements: YtldbabadbggleaaTotals.lean).
  GIVEN WITH THE SEED: the statements are not yours to turn. If you find one false, say at which input.
  Laid BY PROGRAM, IN A SANDBOX (cutbox-rows.mjs): the forced cells as the released guide's own fill.sh prints them over the translation 38f8613f6eca2b8d… (all of the seat's roots in one cut). By AI agents, Wed Nov 11 2026. No macro, syntax, notation, axiom, sorry.
-/
import Derived.Test.YtldbabadbggleaaChecked
import GoSem.Claim
import GoSem.ClaimJoined
import GoSem.ClaimMapViews
import Derived.JoinedTies
import Derived.KernelRfl
namespace Go.Proofs.Ytldbabadbggleaa
/- THE CELL 'sum', in the pinned program and in every row, IS THE sha256 OF THE DUMP (.gsa) THAT YtldbabadbggleaaProg.lean LOADS. Nothing in Lean hashes anything: it is a label: what it is worth is what the hold of that sum in a sandbox is worth. -/
noncomputable def Try.pinned : Pinned := { name := "ytldbabadbggleaa", sum := "38f8613f6eca2b8d6578236be92d9482c1fdfbff936b3d00c875d6551f91cbf7", checked := Try.checked }
namespace Rows
def none {H : Type} : Left H := { results := [], args := [] }

/-- 'laws.FnExactAllArrays': WHATEVER THE INPUT: true; the input reads as it did. -/
def fnExactAllArraysSpec : ChangeSpec := { name := "fnExactAllArrays", fn := fun _ => fun
  | [d1, d2] => { results := [.lit (.bool true)], args := [d1, d2] }
  | _ => none }
def fnExactAllArraysRow : OpenClaim := { program := "ytldbabadbggleaa", sum := "38f8613f6eca2b8d6578236be92d9482c1fdfbff936b3d00c875d6551f91cbf7", func := "loop.example/g01138/laws.FnExactAllArrays", spec := "fnExactAllArrays", unfollowed := true, recurses := true, plainKeys := false, apart := false }
def FnExactAllArraysSaid : Prop := fnExactAllArraysRow.holds Try.pinned (OpenSpec.ofChange fnExactAllArraysSpec)

/-- ITS FALSE NEIGHBOUR: 'it returns false'. Refute it at one input. -/
def fnExactAllArraysWrong : ChangeSpec := { name := "fnExactAllArrays", fn := fun _ => fun
  | [d1, d2] => { results := [.lit (.bool false)], args := [d1, d2] }
  | _ => none }
def FnExactAllArraysWrongFalsely : Prop := fnExactAllArraysRow.holds Try.pinned (OpenSpec.ofChange fnExactAllArraysWrong)

/-- 'laws.FnExactHookPolynomial': WHATEVER THE INPUT: true; the input reads as it did. -/
def fnExactHookPolynomialSpec : ChangeSpec := { name := "fnExactHookPolynomial", fn := fun _ => fun
  | [d1, d2] => { results := [.lit (.bool true)], args := [d1, d2] }
  | _ => none }
def fnExactHookPolynomialRow : OpenClaim := { program := "ytldbabadbggleaa", sum := "38f8613f6eca2b8d6578236be92d9482c1fdfbff936b3d00c875d6551f91cbf7", func := "loop.example/g01138/laws.FnExactHookPolynomial", spec := "fnExactHookPolynomial", unfollowed := true, recurses := true, plainKeys := false, apart := false }
def FnExactHookPolynomialSaid : Prop := fnExactHookPolynomialRow.holds Try.pinned (OpenSpec.ofChange fnExactHookPolynomialSpec)

/-- ITS FALSE NEIGHBOUR: 'it returns false'. Refute it at one input. -/
def fnExactHookPolynomialWrong : ChangeSpec := { name := "fnExactHookPolynomial", fn := fun _ => fun
  | [d1, d2] => { results := [.lit (.bool false)], args := [d1, d2] }
  | _ => none }
def FnExactHookPolynomialWrongFalsely : Prop := fnExactHookPolynomialRow.holds Try.pinned (OpenSpec.ofChange fnExactHookPolynomialWrong)

/-- 'laws.FnExactPromotionFixed': WHATEVER THE INPUT: true; the input reads as it did. -/
def fnExactPromotionFixedSpec : ChangeSpec := { name := "fnExactPromotionFixed", fn := fun _ => fun
  | [d1, d2, d3] => { results := [.lit (.bool true)], args := [d1, d2, d3] }
  | _ => none }
def fnExactPromotionFixedRow : OpenClaim := { program := "ytldbabadbggleaa", sum := "38f8613f6eca2b8d6578236be92d9482c1fdfbff936b3d00c875d6551f91cbf7", func := "loop.example/g01138/laws.FnExactPromotionFixed", spec := "fnExactPromotionFixed", unfollowed := true, recurses := true, plainKeys := false, apart := false }
def FnExactPromotionFixedSaid : Prop := fnExactPromotionFixedRow.holds Try.pinned (OpenSpec.ofChange fnExactPromotionFixedSpec)

/-- ITS FALSE NEIGHBOUR: 'it returns false'. Refute it at one input. -/
def fnExactPromotionFixedWrong : ChangeSpec := { name := "fnExactPromotionFixed", fn := fun _ => fun
  | [d1, d2, d3] => { results := [.lit (.bool false)], args := [d1, d2, d3] }
  | _ => none }
def FnExactPromotionFixedWrongFalsely : Prop := fnExactPromotionFixedRow.holds Try.pinned (OpenSpec.ofChange fnExactPromotionFixedWrong)

/-- 'laws.FnExactPromotionStabilizers': WHATEVER THE INPUT: true; the input reads as it did. -/
def fnExactPromotionStabilizersSpec : ChangeSpec := { name := "fnExactPromotionStabilizers", fn := fun _ => fun
  | [d1, d2] => { results := [.lit (.bool true)], args := [d1, d2] }
  | _ => none }
def fnExactPromotionStabilizersRow : OpenClaim := { program := "ytldbabadbggleaa", sum := "38f8613f6eca2b8d6578236be92d9482c1fdfbff936b3d00c875d6551f91cbf7", func := "loop.example/g01138/laws.FnExactPromotionStabilizers", spec := "fnExactPromotionStabilizers", unfollowed := true, recurses := true, plainKeys := false, apart := false }
def FnExactPromotionStabilizersSaid : Prop := fnExactPromotionStabilizersRow.holds Try.pinned (OpenSpec.ofChange fnExactPromotionStabilizersSpec)

/-- ITS FALSE NEIGHBOUR: 'it returns false'. Refute it at one input. -/
def fnExactPromotionStabilizersWrong : ChangeSpec := { name := "fnExactPromotionStabilizers", fn := fun _ => fun
  | [d1, d2] => { results := [.lit (.bool false)], args := [d1, d2] }
  | _ => none }
def FnExactPromotionStabilizersWrongFalsely : Prop := fnExactPromotionStabilizersRow.holds Try.pinned (OpenSpec.ofChange fnExactPromotionStabilizersWrong)

/- THE SECOND FORM. 'bulk': how many values and letters a reading holds, each counted each time it is reached (what is shared counts as often as it is met; a slice's spare places count too). A statement '..UptoSaid' is the law's where the arguments, and the package variables that the reading takes, are together of bulk at most 1048576: NARROWER than '..Said'. Prove '..Said' where nothing that the law and all that it calls make is longer than what came in: it says more and counts as full. Else prove '..UptoSaid'. A law counts once. -/
mutual
def uptoBulk {H : Type} : DataW H → Nat
  | .lit (.string bytes) => bytes.length + 1
  | .lit _ => 1
  | .nil => 1
  | .ptr d => uptoBulk d + 1
  | .slice elems spare => uptoBulkAll elems + uptoBulkAll spare + 1
  | .agg parts => uptoBulkAll parts + 1
  | .iface _ d => uptoBulk d + 1
  | .map entries => uptoBulkEntries entries + 1
  | .held _ => 1
def uptoBulkAll {H : Type} : List (DataW H) → Nat
  | [] => 0
  | d :: r => uptoBulk d + uptoBulkAll r
def uptoBulkEntries {H : Type} : List (Lit × DataW H) → Nat
  | [] => 0
  | x :: r => uptoBulkEntry x + uptoBulkEntries r
def uptoBulkEntry {H : Type} : Lit × DataW H → Nat
  | (.string bytes, d) => bytes.length + uptoBulk d + 1
  | (_, d) => uptoBulk d + 1
 end
def uptoSmall : (H : Type) → List (DataW H) → Bool := fun _ ds => decide (uptoBulkAll ds ≤ 1048576)
def OpenSpec.upto (s : _root_.Go.ChangeSpec) : _root_.Go.OpenSpec := { _root_.Go.OpenSpec.ofChange s with cond := some uptoSmall }

/-- 'laws.FnExactAllArrays', WHERE WHAT IT READS IS OF BULK AT MOST 1048576: true; the input reads as it did. -/
def fnExactAllArraysUptoRow : OpenClaim := { program := "ytldbabadbggleaa", sum := "38f8613f6eca2b8d6578236be92d9482c1fdfbff936b3d00c875d6551f91cbf7", func := "loop.example/g01138/laws.FnExactAllArrays", spec := "fnExactAllArrays", unfollowed := true, recurses := true, plainKeys := false, apart := false, narrowed := true }
def FnExactAllArraysUptoSaid : Prop := fnExactAllArraysUptoRow.holds Try.pinned (OpenSpec.upto fnExactAllArraysSpec)

/-- 'laws.FnExactHookPolynomial', WHERE WHAT IT READS IS OF BULK AT MOST 1048576: true; the input reads as it did. -/
def fnExactHookPolynomialUptoRow : OpenClaim := { program := "ytldbabadbggleaa", sum := "38f8613f6eca2b8d6578236be92d9482c1fdfbff936b3d00c875d6551f91cbf7", func := "loop.example/g01138/laws.FnExactHookPolynomial", spec := "fnExactHookPolynomial", unfollowed := true, recurses := true, plainKeys := false, apart := false, narrowed := true }
def FnExactHookPolynomialUptoSaid : Prop := fnExactHookPolynomialUptoRow.holds Try.pinned (OpenSpec.upto fnExactHookPolynomialSpec)

/-- 'laws.FnExactPromotionFixed', WHERE WHAT IT READS IS OF BULK AT MOST 1048576: true; the input reads as it did. -/
def fnExactPromotionFixedUptoRow : OpenClaim := { program := "ytldbabadbggleaa", sum := "38f8613f6eca2b8d6578236be92d9482c1fdfbff936b3d00c875d6551f91cbf7", func := "loop.example/g01138/laws.FnExactPromotionFixed", spec := "fnExactPromotionFixed", unfollowed := true, recurses := true, plainKeys := false, apart := false, narrowed := true }
def FnExactPromotionFixedUptoSaid : Prop := fnExactPromotionFixedUptoRow.holds Try.pinned (OpenSpec.upto fnExactPromotionFixedSpec)

/-- 'laws.FnExactPromotionStabilizers', WHERE WHAT IT READS IS OF BULK AT MOST 1048576: true; the input reads as it did. -/
def fnExactPromotionStabilizersUptoRow : OpenClaim := { program := "ytldbabadbggleaa", sum := "38f8613f6eca2b8d6578236be92d9482c1fdfbff936b3d00c875d6551f91cbf7", func := "loop.example/g01138/laws.FnExactPromotionStabilizers", spec := "fnExactPromotionStabilizers", unfollowed := true, recurses := true, plainKeys := false, apart := false, narrowed := true }
def FnExactPromotionStabilizersUptoSaid : Prop := fnExactPromotionStabilizersUptoRow.holds Try.pinned (OpenSpec.upto fnExactPromotionStabilizersSpec)

end Rows
end Go.Proofs.Ytldbabadbggleaa
