/-
  No cell of these rows narrows 'for every input' (looked for: loops, veiled, ifaces, maps, wideKeys, modest, calm, conditions, laid).
  DERIVED. THE GIVEN ROWS OF THIS SEAT. 3 by the template 'for every input the law returns true; each argument reads behind the call as it read before'; 0 by the template 'total and deterministic' (their statements: YtnhhkjodmcepmaaTotals.lean).
  GIVEN WITH THE SEED: the statements are not yours to turn. If you find one false, say at which input.
  Laid BY PROGRAM, IN A SANDBOX (cutbox-rows.mjs): the forced cells as the released guide's own fill.sh prints them over the translation 2a4d3850f9ee014e… (all of the seat's roots in one cut). By AI agents, Wed Nov 11 2026. No macro, syntax, notation, axiom, sorry.
-/
import Derived.Test.YtnhhkjodmcepmaaChecked
import GoSem.Claim
import GoSem.ClaimJoined
import GoSem.ClaimMapViews
import Derived.JoinedTies
import Derived.KernelRfl
namespace Go.Proofs.Ytnhhkjodmcepmaa
/- THE CELL 'sum', in the pinned program and in every row, IS THE sha256 OF THE DUMP (.gsa) THAT YtnhhkjodmcepmaaProg.lean LOADS. Nothing in Lean hashes anything: it is a label: what it is worth is what the hold of that sum in a sandbox is worth. -/
noncomputable def Try.pinned : Pinned := { name := "ytnhhkjodmcepmaa", sum := "2a4d3850f9ee014ebe7a60e191725a3e19733f99f55d1d8d81a2dec641be5d2c", checked := Try.checked }
namespace Rows
def none {H : Type} : Left H := { results := [], args := [] }

/-- 'laws.FnExactOrbitsByRests': WHATEVER THE INPUT: true; the input reads as it did. -/
def fnExactOrbitsByRestsSpec : ChangeSpec := { name := "fnExactOrbitsByRests", fn := fun _ => fun
  | [d] => { results := [.lit (.bool true)], args := [d] }
  | _ => none }
def fnExactOrbitsByRestsRow : OpenClaim := { program := "ytnhhkjodmcepmaa", sum := "2a4d3850f9ee014ebe7a60e191725a3e19733f99f55d1d8d81a2dec641be5d2c", func := "loop.example/g01138/laws.FnExactOrbitsByRests", spec := "fnExactOrbitsByRests", unfollowed := true, recurses := true, apart := false }
def FnExactOrbitsByRestsSaid : Prop := fnExactOrbitsByRestsRow.holds Try.pinned (OpenSpec.ofChange fnExactOrbitsByRestsSpec)

/-- ITS FALSE NEIGHBOUR: 'it returns false'. Refute it at one input. -/
def fnExactOrbitsByRestsWrong : ChangeSpec := { name := "fnExactOrbitsByRests", fn := fun _ => fun
  | [d] => { results := [.lit (.bool false)], args := [d] }
  | _ => none }
def FnExactOrbitsByRestsWrongFalsely : Prop := fnExactOrbitsByRestsRow.holds Try.pinned (OpenSpec.ofChange fnExactOrbitsByRestsWrong)

/-- 'laws.FnExactAllArrays': WHATEVER THE INPUT: true; the input reads as it did. -/
def fnExactAllArraysSpec : ChangeSpec := { name := "fnExactAllArrays", fn := fun _ => fun
  | [d1, d2] => { results := [.lit (.bool true)], args := [d1, d2] }
  | _ => none }
def fnExactAllArraysRow : OpenClaim := { program := "ytnhhkjodmcepmaa", sum := "2a4d3850f9ee014ebe7a60e191725a3e19733f99f55d1d8d81a2dec641be5d2c", func := "loop.example/g01138/laws.FnExactAllArrays", spec := "fnExactAllArrays", unfollowed := true, recurses := true, apart := false }
def FnExactAllArraysSaid : Prop := fnExactAllArraysRow.holds Try.pinned (OpenSpec.ofChange fnExactAllArraysSpec)

/-- ITS FALSE NEIGHBOUR: 'it returns false'. Refute it at one input. -/
def fnExactAllArraysWrong : ChangeSpec := { name := "fnExactAllArrays", fn := fun _ => fun
  | [d1, d2] => { results := [.lit (.bool false)], args := [d1, d2] }
  | _ => none }
def FnExactAllArraysWrongFalsely : Prop := fnExactAllArraysRow.holds Try.pinned (OpenSpec.ofChange fnExactAllArraysWrong)

/-- 'laws.FnExactHookPolynomial': WHATEVER THE INPUT: true; the input reads as it did. -/
def fnExactHookPolynomialSpec : ChangeSpec := { name := "fnExactHookPolynomial", fn := fun _ => fun
  | [d1, d2] => { results := [.lit (.bool true)], args := [d1, d2] }
  | _ => none }
def fnExactHookPolynomialRow : OpenClaim := { program := "ytnhhkjodmcepmaa", sum := "2a4d3850f9ee014ebe7a60e191725a3e19733f99f55d1d8d81a2dec641be5d2c", func := "loop.example/g01138/laws.FnExactHookPolynomial", spec := "fnExactHookPolynomial", unfollowed := true, recurses := true, apart := false }
def FnExactHookPolynomialSaid : Prop := fnExactHookPolynomialRow.holds Try.pinned (OpenSpec.ofChange fnExactHookPolynomialSpec)

/-- ITS FALSE NEIGHBOUR: 'it returns false'. Refute it at one input. -/
def fnExactHookPolynomialWrong : ChangeSpec := { name := "fnExactHookPolynomial", fn := fun _ => fun
  | [d1, d2] => { results := [.lit (.bool false)], args := [d1, d2] }
  | _ => none }
def FnExactHookPolynomialWrongFalsely : Prop := fnExactHookPolynomialRow.holds Try.pinned (OpenSpec.ofChange fnExactHookPolynomialWrong)

/- THE SECOND FORM. 'bulk': how many values and letters a reading holds, each counted each time it is reached (what is shared counts as often as it is met; a slice's spare places count too). A statement '..UptoSaid' is the law's where the arguments, and the package variables that the reading takes, are together of bulk at most 1048576: NARROWER than '..Said'. Prove '..Said' where nothing that the law and all that it calls make is longer than what came in: it says more and counts as full. Else prove '..UptoSaid'. A law counts once. -/
mutual
def uptoBulk {H : Type} : DataW H → Nat
  | .lit (.string bytes) => bytes.length + 1
  | .lit _ => 1
  | .nil => 1
  | .ptr d => uptoBulk d + 1
  | .slice elems spare => uptoBulkAll elems + uptoBulkAll spare + 1
  | .agg parts => uptoBulkAll parts + 1
  | .iface _ d => uptoBulk d + 1
  | .map entries => uptoBulkEntries entries + 1
  | .held _ => 1
def uptoBulkAll {H : Type} : List (DataW H) → Nat
  | [] => 0
  | d :: r => uptoBulk d + uptoBulkAll r
def uptoBulkEntries {H : Type} : List (Lit × DataW H) → Nat
  | [] => 0
  | x :: r => uptoBulkEntry x + uptoBulkEntries r
def uptoBulkEntry {H : Type} : Lit × DataW H → Nat
  | (.string bytes, d) => bytes.length + uptoBulk d + 1
  | (_, d) => uptoBulk d + 1
 end
def uptoSmall : (H : Type) → List (DataW H) → Bool := fun _ ds => decide (uptoBulkAll ds ≤ 1048576)
def OpenSpec.upto (s : _root_.Go.ChangeSpec) : _root_.Go.OpenSpec := { _root_.Go.OpenSpec.ofChange s with cond := some uptoSmall }

/-- 'laws.FnExactOrbitsByRests', WHERE WHAT IT READS IS OF BULK AT MOST 1048576: true; the input reads as it did. -/
def fnExactOrbitsByRestsUptoRow : OpenClaim := { program := "ytnhhkjodmcepmaa", sum := "2a4d3850f9ee014ebe7a60e191725a3e19733f99f55d1d8d81a2dec641be5d2c", func := "loop.example/g01138/laws.FnExactOrbitsByRests", spec := "fnExactOrbitsByRests", unfollowed := true, recurses := true, apart := false, narrowed := true }
def FnExactOrbitsByRestsUptoSaid : Prop := fnExactOrbitsByRestsUptoRow.holds Try.pinned (OpenSpec.upto fnExactOrbitsByRestsSpec)

/-- 'laws.FnExactAllArrays', WHERE WHAT IT READS IS OF BULK AT MOST 1048576: true; the input reads as it did. -/
def fnExactAllArraysUptoRow : OpenClaim := { program := "ytnhhkjodmcepmaa", sum := "2a4d3850f9ee014ebe7a60e191725a3e19733f99f55d1d8d81a2dec641be5d2c", func := "loop.example/g01138/laws.FnExactAllArrays", spec := "fnExactAllArrays", unfollowed := true, recurses := true, apart := false, narrowed := true }
def FnExactAllArraysUptoSaid : Prop := fnExactAllArraysUptoRow.holds Try.pinned (OpenSpec.upto fnExactAllArraysSpec)

/-- 'laws.FnExactHookPolynomial', WHERE WHAT IT READS IS OF BULK AT MOST 1048576: true; the input reads as it did. -/
def fnExactHookPolynomialUptoRow : OpenClaim := { program := "ytnhhkjodmcepmaa", sum := "2a4d3850f9ee014ebe7a60e191725a3e19733f99f55d1d8d81a2dec641be5d2c", func := "loop.example/g01138/laws.FnExactHookPolynomial", spec := "fnExactHookPolynomial", unfollowed := true, recurses := true, apart := false, narrowed := true }
def FnExactHookPolynomialUptoSaid : Prop := fnExactHookPolynomialUptoRow.holds Try.pinned (OpenSpec.upto fnExactHookPolynomialSpec)

end Rows
end Go.Proofs.Ytnhhkjodmcepmaa
