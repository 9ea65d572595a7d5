/-
  No cell of these rows narrows 'for every input' (looked for: loops, veiled, ifaces, maps, wideKeys, modest, calm, conditions, laid).
  DERIVED. THE GIVEN ROWS OF THIS SEAT. 6 by the template 'for every input the law returns true; each argument reads behind the call as it read before'; 0 by the template 'total and deterministic' (their statements: YtoicnacdhoejbaaTotals.lean).
  GIVEN WITH THE SEED: the statements are not yours to turn. If you find one false, say at which input.
  Laid BY PROGRAM, IN A SANDBOX (cutbox-rows.mjs): the forced cells as the released guide's own fill.sh prints them over the translation 9ef23aa51a41484a… (all of the seat's roots in one cut). By AI agents, Wed Nov 11 2026. No macro, syntax, notation, axiom, sorry.
-/
import Derived.Test.YtoicnacdhoejbaaChecked
import GoSem.Claim
import GoSem.ClaimJoined
import GoSem.ClaimMapViews
import Derived.JoinedTies
import Derived.KernelRfl
namespace Go.Proofs.Ytoicnacdhoejbaa
/- THE CELL 'sum', in the pinned program and in every row, IS THE sha256 OF THE DUMP (.gsa) THAT YtoicnacdhoejbaaProg.lean LOADS. Nothing in Lean hashes anything: it is a label: what it is worth is what the hold of that sum in a sandbox is worth. -/
noncomputable def Try.pinned : Pinned := { name := "ytoicnacdhoejbaa", sum := "9ef23aa51a41484aa4516fa3d8fd477052cf8427bfe4d7afb8dad4d59d553f01", checked := Try.checked }
namespace Rows
def none {H : Type} : Left H := { results := [], args := [] }

/-- 'laws.FnExactRemaindersOf': WHATEVER THE INPUT: true; the input reads as it did. -/
def fnExactRemaindersOfSpec : ChangeSpec := { name := "fnExactRemaindersOf", fn := fun _ => fun
  | [d1, d2] => { results := [.lit (.bool true)], args := [d1, d2] }
  | _ => none }
def fnExactRemaindersOfRow : OpenClaim := { program := "ytoicnacdhoejbaa", sum := "9ef23aa51a41484aa4516fa3d8fd477052cf8427bfe4d7afb8dad4d59d553f01", func := "loop.example/g01138/laws.FnExactRemaindersOf", spec := "fnExactRemaindersOf", unfollowed := true, recurses := true, apart := false }
def FnExactRemaindersOfSaid : Prop := fnExactRemaindersOfRow.holds Try.pinned (OpenSpec.ofChange fnExactRemaindersOfSpec)

/-- ITS FALSE NEIGHBOUR: 'it returns false'. Refute it at one input. -/
def fnExactRemaindersOfWrong : ChangeSpec := { name := "fnExactRemaindersOf", fn := fun _ => fun
  | [d1, d2] => { results := [.lit (.bool false)], args := [d1, d2] }
  | _ => none }
def FnExactRemaindersOfWrongFalsely : Prop := fnExactRemaindersOfRow.holds Try.pinned (OpenSpec.ofChange fnExactRemaindersOfWrong)

/-- 'laws.FnExactIsSieved': WHATEVER THE INPUT: true; the input reads as it did. -/
def fnExactIsSievedSpec : ChangeSpec := { name := "fnExactIsSieved", fn := fun _ => fun
  | [d1, d2] => { results := [.lit (.bool true)], args := [d1, d2] }
  | _ => none }
def fnExactIsSievedRow : OpenClaim := { program := "ytoicnacdhoejbaa", sum := "9ef23aa51a41484aa4516fa3d8fd477052cf8427bfe4d7afb8dad4d59d553f01", func := "loop.example/g01138/laws.FnExactIsSieved", spec := "fnExactIsSieved", unfollowed := true, recurses := true, apart := false }
def FnExactIsSievedSaid : Prop := fnExactIsSievedRow.holds Try.pinned (OpenSpec.ofChange fnExactIsSievedSpec)

/-- ITS FALSE NEIGHBOUR: 'it returns false'. Refute it at one input. -/
def fnExactIsSievedWrong : ChangeSpec := { name := "fnExactIsSieved", fn := fun _ => fun
  | [d1, d2] => { results := [.lit (.bool false)], args := [d1, d2] }
  | _ => none }
def FnExactIsSievedWrongFalsely : Prop := fnExactIsSievedRow.holds Try.pinned (OpenSpec.ofChange fnExactIsSievedWrong)

/-- 'laws.FnExactFirstDesk': WHATEVER THE INPUT: true; the input reads as it did. -/
def fnExactFirstDeskSpec : ChangeSpec := { name := "fnExactFirstDesk", fn := fun _ => fun
  | [] => { results := [.lit (.bool true)], args := [] }
  | _ => none }
def fnExactFirstDeskRow : OpenClaim := { program := "ytoicnacdhoejbaa", sum := "9ef23aa51a41484aa4516fa3d8fd477052cf8427bfe4d7afb8dad4d59d553f01", func := "loop.example/g01138/laws.FnExactFirstDesk", spec := "fnExactFirstDesk", unfollowed := true, recurses := true, apart := false }
def FnExactFirstDeskSaid : Prop := fnExactFirstDeskRow.holds Try.pinned (OpenSpec.ofChange fnExactFirstDeskSpec)

/-- ITS FALSE NEIGHBOUR: 'it returns false'. Refute it at one input. -/
def fnExactFirstDeskWrong : ChangeSpec := { name := "fnExactFirstDesk", fn := fun _ => fun
  | [] => { results := [.lit (.bool false)], args := [] }
  | _ => none }
def FnExactFirstDeskWrongFalsely : Prop := fnExactFirstDeskRow.holds Try.pinned (OpenSpec.ofChange fnExactFirstDeskWrong)

/-- 'laws.FnExactOrbitsByRests': WHATEVER THE INPUT: true; the input reads as it did. -/
def fnExactOrbitsByRestsSpec : ChangeSpec := { name := "fnExactOrbitsByRests", fn := fun _ => fun
  | [d] => { results := [.lit (.bool true)], args := [d] }
  | _ => none }
def fnExactOrbitsByRestsRow : OpenClaim := { program := "ytoicnacdhoejbaa", sum := "9ef23aa51a41484aa4516fa3d8fd477052cf8427bfe4d7afb8dad4d59d553f01", func := "loop.example/g01138/laws.FnExactOrbitsByRests", spec := "fnExactOrbitsByRests", unfollowed := true, recurses := true, apart := false }
def FnExactOrbitsByRestsSaid : Prop := fnExactOrbitsByRestsRow.holds Try.pinned (OpenSpec.ofChange fnExactOrbitsByRestsSpec)

/-- ITS FALSE NEIGHBOUR: 'it returns false'. Refute it at one input. -/
def fnExactOrbitsByRestsWrong : ChangeSpec := { name := "fnExactOrbitsByRests", fn := fun _ => fun
  | [d] => { results := [.lit (.bool false)], args := [d] }
  | _ => none }
def FnExactOrbitsByRestsWrongFalsely : Prop := fnExactOrbitsByRestsRow.holds Try.pinned (OpenSpec.ofChange fnExactOrbitsByRestsWrong)

/-- 'laws.FnExactIsDesk': WHATEVER THE INPUT: true; the input reads as it did. -/
def fnExactIsDeskSpec : ChangeSpec := { name := "fnExactIsDesk", fn := fun _ => fun
  | [d] => { results := [.lit (.bool true)], args := [d] }
  | _ => none }
def fnExactIsDeskRow : OpenClaim := { program := "ytoicnacdhoejbaa", sum := "9ef23aa51a41484aa4516fa3d8fd477052cf8427bfe4d7afb8dad4d59d553f01", func := "loop.example/g01138/laws.FnExactIsDesk", spec := "fnExactIsDesk", apart := false }
def FnExactIsDeskSaid : Prop := fnExactIsDeskRow.holds Try.pinned (OpenSpec.ofChange fnExactIsDeskSpec)

/-- ITS FALSE NEIGHBOUR: 'it returns false'. Refute it at one input. -/
def fnExactIsDeskWrong : ChangeSpec := { name := "fnExactIsDesk", fn := fun _ => fun
  | [d] => { results := [.lit (.bool false)], args := [d] }
  | _ => none }
def FnExactIsDeskWrongFalsely : Prop := fnExactIsDeskRow.holds Try.pinned (OpenSpec.ofChange fnExactIsDeskWrong)

/-- 'laws.FnExactDualIdeal': WHATEVER THE INPUT: true; the input reads as it did. -/
def fnExactDualIdealSpec : ChangeSpec := { name := "fnExactDualIdeal", fn := fun _ => fun
  | [d1, d2] => { results := [.lit (.bool true)], args := [d1, d2] }
  | _ => none }
def fnExactDualIdealRow : OpenClaim := { program := "ytoicnacdhoejbaa", sum := "9ef23aa51a41484aa4516fa3d8fd477052cf8427bfe4d7afb8dad4d59d553f01", func := "loop.example/g01138/laws.FnExactDualIdeal", spec := "fnExactDualIdeal", apart := false }
def FnExactDualIdealSaid : Prop := fnExactDualIdealRow.holds Try.pinned (OpenSpec.ofChange fnExactDualIdealSpec)

/-- ITS FALSE NEIGHBOUR: 'it returns false'. Refute it at one input. -/
def fnExactDualIdealWrong : ChangeSpec := { name := "fnExactDualIdeal", fn := fun _ => fun
  | [d1, d2] => { results := [.lit (.bool false)], args := [d1, d2] }
  | _ => none }
def FnExactDualIdealWrongFalsely : Prop := fnExactDualIdealRow.holds Try.pinned (OpenSpec.ofChange fnExactDualIdealWrong)

/- THE SECOND FORM. 'bulk': how many values and letters a reading holds, each counted each time it is reached (what is shared counts as often as it is met; a slice's spare places count too). A statement '..UptoSaid' is the law's where the arguments, and the package variables that the reading takes, are together of bulk at most 1048576: NARROWER than '..Said'. Prove '..Said' where nothing that the law and all that it calls make is longer than what came in: it says more and counts as full. Else prove '..UptoSaid'. A law counts once. -/
mutual
def uptoBulk {H : Type} : DataW H → Nat
  | .lit (.string bytes) => bytes.length + 1
  | .lit _ => 1
  | .nil => 1
  | .ptr d => uptoBulk d + 1
  | .slice elems spare => uptoBulkAll elems + uptoBulkAll spare + 1
  | .agg parts => uptoBulkAll parts + 1
  | .iface _ d => uptoBulk d + 1
  | .map entries => uptoBulkEntries entries + 1
  | .held _ => 1
def uptoBulkAll {H : Type} : List (DataW H) → Nat
  | [] => 0
  | d :: r => uptoBulk d + uptoBulkAll r
def uptoBulkEntries {H : Type} : List (Lit × DataW H) → Nat
  | [] => 0
  | x :: r => uptoBulkEntry x + uptoBulkEntries r
def uptoBulkEntry {H : Type} : Lit × DataW H → Nat
  | (.string bytes, d) => bytes.length + uptoBulk d + 1
  | (_, d) => uptoBulk d + 1
 end
def uptoSmall : (H : Type) → List (DataW H) → Bool := fun _ ds => decide (uptoBulkAll ds ≤ 1048576)
def OpenSpec.upto (s : _root_.Go.ChangeSpec) : _root_.Go.OpenSpec := { _root_.Go.OpenSpec.ofChange s with cond := some uptoSmall }

/-- 'laws.FnExactRemaindersOf', WHERE WHAT IT READS IS OF BULK AT MOST 1048576: true; the input reads as it did. -/
def fnExactRemaindersOfUptoRow : OpenClaim := { program := "ytoicnacdhoejbaa", sum := "9ef23aa51a41484aa4516fa3d8fd477052cf8427bfe4d7afb8dad4d59d553f01", func := "loop.example/g01138/laws.FnExactRemaindersOf", spec := "fnExactRemaindersOf", unfollowed := true, recurses := true, apart := false, narrowed := true }
def FnExactRemaindersOfUptoSaid : Prop := fnExactRemaindersOfUptoRow.holds Try.pinned (OpenSpec.upto fnExactRemaindersOfSpec)

/-- 'laws.FnExactIsSieved', WHERE WHAT IT READS IS OF BULK AT MOST 1048576: true; the input reads as it did. -/
def fnExactIsSievedUptoRow : OpenClaim := { program := "ytoicnacdhoejbaa", sum := "9ef23aa51a41484aa4516fa3d8fd477052cf8427bfe4d7afb8dad4d59d553f01", func := "loop.example/g01138/laws.FnExactIsSieved", spec := "fnExactIsSieved", unfollowed := true, recurses := true, apart := false, narrowed := true }
def FnExactIsSievedUptoSaid : Prop := fnExactIsSievedUptoRow.holds Try.pinned (OpenSpec.upto fnExactIsSievedSpec)

/-- 'laws.FnExactFirstDesk', WHERE WHAT IT READS IS OF BULK AT MOST 1048576: true; the input reads as it did. -/
def fnExactFirstDeskUptoRow : OpenClaim := { program := "ytoicnacdhoejbaa", sum := "9ef23aa51a41484aa4516fa3d8fd477052cf8427bfe4d7afb8dad4d59d553f01", func := "loop.example/g01138/laws.FnExactFirstDesk", spec := "fnExactFirstDesk", unfollowed := true, recurses := true, apart := false, narrowed := true }
def FnExactFirstDeskUptoSaid : Prop := fnExactFirstDeskUptoRow.holds Try.pinned (OpenSpec.upto fnExactFirstDeskSpec)

/-- 'laws.FnExactOrbitsByRests', WHERE WHAT IT READS IS OF BULK AT MOST 1048576: true; the input reads as it did. -/
def fnExactOrbitsByRestsUptoRow : OpenClaim := { program := "ytoicnacdhoejbaa", sum := "9ef23aa51a41484aa4516fa3d8fd477052cf8427bfe4d7afb8dad4d59d553f01", func := "loop.example/g01138/laws.FnExactOrbitsByRests", spec := "fnExactOrbitsByRests", unfollowed := true, recurses := true, apart := false, narrowed := true }
def FnExactOrbitsByRestsUptoSaid : Prop := fnExactOrbitsByRestsUptoRow.holds Try.pinned (OpenSpec.upto fnExactOrbitsByRestsSpec)

/-- 'laws.FnExactIsDesk', WHERE WHAT IT READS IS OF BULK AT MOST 1048576: true; the input reads as it did. -/
def fnExactIsDeskUptoRow : OpenClaim := { program := "ytoicnacdhoejbaa", sum := "9ef23aa51a41484aa4516fa3d8fd477052cf8427bfe4d7afb8dad4d59d553f01", func := "loop.example/g01138/laws.FnExactIsDesk", spec := "fnExactIsDesk", apart := false, narrowed := true }
def FnExactIsDeskUptoSaid : Prop := fnExactIsDeskUptoRow.holds Try.pinned (OpenSpec.upto fnExactIsDeskSpec)

/-- 'laws.FnExactDualIdeal', WHERE WHAT IT READS IS OF BULK AT MOST 1048576: true; the input reads as it did. -/
def fnExactDualIdealUptoRow : OpenClaim := { program := "ytoicnacdhoejbaa", sum := "9ef23aa51a41484aa4516fa3d8fd477052cf8427bfe4d7afb8dad4d59d553f01", func := "loop.example/g01138/laws.FnExactDualIdeal", spec := "fnExactDualIdeal", apart := false, narrowed := true }
def FnExactDualIdealUptoSaid : Prop := fnExactDualIdealUptoRow.holds Try.pinned (OpenSpec.upto fnExactDualIdealSpec)

end Rows
end Go.Proofs.Ytoicnacdhoejbaa
