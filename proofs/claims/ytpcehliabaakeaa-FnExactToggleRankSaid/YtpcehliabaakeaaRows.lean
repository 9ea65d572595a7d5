/-
  No cell of these rows narrows 'for every input' (looked for: loops, veiled, ifaces, maps, wideKeys, modest, calm, conditions, laid).
  DERIVED. THE GIVEN ROWS OF THIS SEAT. 12 by the template 'for every input the law returns true; each argument reads behind the call as it read before'; 0 by the template 'total and deterministic' (their statements: YtpcehliabaakeaaTotals.lean).
  GIVEN WITH THE SEED: the statements are not yours to turn. If you find one false, say at which input.
  Laid BY PROGRAM, IN A SANDBOX (cutbox-rows.mjs): the forced cells as the released guide's own fill.sh prints them over the translation 08b7af37271ccc84… (all of the seat's roots in one cut). By AI agents, Wed Nov 11 2026. No macro, syntax, notation, axiom, sorry.
-/
import Derived.Test.YtpcehliabaakeaaChecked
import GoSem.Claim
import GoSem.ClaimJoined
import GoSem.ClaimMapViews
import Derived.JoinedTies
import Derived.KernelRfl
namespace Go.Proofs.Ytpcehliabaakeaa
/- THE CELL 'sum', in the pinned program and in every row, IS THE sha256 OF THE DUMP (.gsa) THAT YtpcehliabaakeaaProg.lean LOADS. Nothing in Lean hashes anything: it is a label: what it is worth is what the hold of that sum in a sandbox is worth. -/
noncomputable def Try.pinned : Pinned := { name := "ytpcehliabaakeaa", sum := "08b7af37271ccc8469095fb34d667ff32a63bd7b0244b32195632d71af5e4062", checked := Try.checked }
namespace Rows
def none {H : Type} : Left H := { results := [], args := [] }

/-- 'laws.FnExactAllArrays': WHATEVER THE INPUT: true; the input reads as it did. -/
def fnExactAllArraysSpec : ChangeSpec := { name := "fnExactAllArrays", fn := fun _ => fun
  | [d1, d2] => { results := [.lit (.bool true)], args := [d1, d2] }
  | _ => none }
def fnExactAllArraysRow : OpenClaim := { program := "ytpcehliabaakeaa", sum := "08b7af37271ccc8469095fb34d667ff32a63bd7b0244b32195632d71af5e4062", func := "loop.example/g01138/laws.FnExactAllArrays", spec := "fnExactAllArrays", unfollowed := true, recurses := true, apart := false }
def FnExactAllArraysSaid : Prop := fnExactAllArraysRow.holds Try.pinned (OpenSpec.ofChange fnExactAllArraysSpec)

/-- ITS FALSE NEIGHBOUR: 'it returns false'. Refute it at one input. -/
def fnExactAllArraysWrong : ChangeSpec := { name := "fnExactAllArrays", fn := fun _ => fun
  | [d1, d2] => { results := [.lit (.bool false)], args := [d1, d2] }
  | _ => none }
def FnExactAllArraysWrongFalsely : Prop := fnExactAllArraysRow.holds Try.pinned (OpenSpec.ofChange fnExactAllArraysWrong)

/-- 'laws.FnExactToggleNumber': WHATEVER THE INPUT: true; the input reads as it did. -/
def fnExactToggleNumberSpec : ChangeSpec := { name := "fnExactToggleNumber", fn := fun _ => fun
  | [d1, d2, d3, d4] => { results := [.lit (.bool true)], args := [d1, d2, d3, d4] }
  | _ => none }
def fnExactToggleNumberRow : OpenClaim := { program := "ytpcehliabaakeaa", sum := "08b7af37271ccc8469095fb34d667ff32a63bd7b0244b32195632d71af5e4062", func := "loop.example/g01138/laws.FnExactToggleNumber", spec := "fnExactToggleNumber", unfollowed := true, recurses := true, apart := false }
def FnExactToggleNumberSaid : Prop := fnExactToggleNumberRow.holds Try.pinned (OpenSpec.ofChange fnExactToggleNumberSpec)

/-- ITS FALSE NEIGHBOUR: 'it returns false'. Refute it at one input. -/
def fnExactToggleNumberWrong : ChangeSpec := { name := "fnExactToggleNumber", fn := fun _ => fun
  | [d1, d2, d3, d4] => { results := [.lit (.bool false)], args := [d1, d2, d3, d4] }
  | _ => none }
def FnExactToggleNumberWrongFalsely : Prop := fnExactToggleNumberRow.holds Try.pinned (OpenSpec.ofChange fnExactToggleNumberWrong)

/-- 'laws.FnExactToggleNumbers': WHATEVER THE INPUT: true; the input reads as it did. -/
def fnExactToggleNumbersSpec : ChangeSpec := { name := "fnExactToggleNumbers", fn := fun _ => fun
  | [d1, d2, d3, d4] => { results := [.lit (.bool true)], args := [d1, d2, d3, d4] }
  | _ => none }
def fnExactToggleNumbersRow : OpenClaim := { program := "ytpcehliabaakeaa", sum := "08b7af37271ccc8469095fb34d667ff32a63bd7b0244b32195632d71af5e4062", func := "loop.example/g01138/laws.FnExactToggleNumbers", spec := "fnExactToggleNumbers", unfollowed := true, recurses := true, apart := false }
def FnExactToggleNumbersSaid : Prop := fnExactToggleNumbersRow.holds Try.pinned (OpenSpec.ofChange fnExactToggleNumbersSpec)

/-- ITS FALSE NEIGHBOUR: 'it returns false'. Refute it at one input. -/
def fnExactToggleNumbersWrong : ChangeSpec := { name := "fnExactToggleNumbers", fn := fun _ => fun
  | [d1, d2, d3, d4] => { results := [.lit (.bool false)], args := [d1, d2, d3, d4] }
  | _ => none }
def FnExactToggleNumbersWrongFalsely : Prop := fnExactToggleNumbersRow.holds Try.pinned (OpenSpec.ofChange fnExactToggleNumbersWrong)

/-- 'laws.FnExactRanksOf': WHATEVER THE INPUT: true; the input reads as it did. -/
def fnExactRanksOfSpec : ChangeSpec := { name := "fnExactRanksOf", fn := fun _ => fun
  | [d] => { results := [.lit (.bool true)], args := [d] }
  | _ => none }
def fnExactRanksOfRow : OpenClaim := { program := "ytpcehliabaakeaa", sum := "08b7af37271ccc8469095fb34d667ff32a63bd7b0244b32195632d71af5e4062", func := "loop.example/g01138/laws.FnExactRanksOf", spec := "fnExactRanksOf", unfollowed := true, recurses := true, apart := false }
def FnExactRanksOfSaid : Prop := fnExactRanksOfRow.holds Try.pinned (OpenSpec.ofChange fnExactRanksOfSpec)

/-- ITS FALSE NEIGHBOUR: 'it returns false'. Refute it at one input. -/
def fnExactRanksOfWrong : ChangeSpec := { name := "fnExactRanksOf", fn := fun _ => fun
  | [d] => { results := [.lit (.bool false)], args := [d] }
  | _ => none }
def FnExactRanksOfWrongFalsely : Prop := fnExactRanksOfRow.holds Try.pinned (OpenSpec.ofChange fnExactRanksOfWrong)

/-- 'laws.FnExactHookPolynomial': WHATEVER THE INPUT: true; the input reads as it did. -/
def fnExactHookPolynomialSpec : ChangeSpec := { name := "fnExactHookPolynomial", fn := fun _ => fun
  | [d1, d2] => { results := [.lit (.bool true)], args := [d1, d2] }
  | _ => none }
def fnExactHookPolynomialRow : OpenClaim := { program := "ytpcehliabaakeaa", sum := "08b7af37271ccc8469095fb34d667ff32a63bd7b0244b32195632d71af5e4062", func := "loop.example/g01138/laws.FnExactHookPolynomial", spec := "fnExactHookPolynomial", unfollowed := true, recurses := true, apart := false }
def FnExactHookPolynomialSaid : Prop := fnExactHookPolynomialRow.holds Try.pinned (OpenSpec.ofChange fnExactHookPolynomialSpec)

/-- ITS FALSE NEIGHBOUR: 'it returns false'. Refute it at one input. -/
def fnExactHookPolynomialWrong : ChangeSpec := { name := "fnExactHookPolynomial", fn := fun _ => fun
  | [d1, d2] => { results := [.lit (.bool false)], args := [d1, d2] }
  | _ => none }
def FnExactHookPolynomialWrongFalsely : Prop := fnExactHookPolynomialRow.holds Try.pinned (OpenSpec.ofChange fnExactHookPolynomialWrong)

/-- 'laws.FnExactRowArray': WHATEVER THE INPUT: true; the input reads as it did. -/
def fnExactRowArraySpec : ChangeSpec := { name := "fnExactRowArray", fn := fun _ => fun
  | [d1, d2, d3] => { results := [.lit (.bool true)], args := [d1, d2, d3] }
  | _ => none }
def fnExactRowArrayRow : OpenClaim := { program := "ytpcehliabaakeaa", sum := "08b7af37271ccc8469095fb34d667ff32a63bd7b0244b32195632d71af5e4062", func := "loop.example/g01138/laws.FnExactRowArray", spec := "fnExactRowArray", apart := false }
def FnExactRowArraySaid : Prop := fnExactRowArrayRow.holds Try.pinned (OpenSpec.ofChange fnExactRowArraySpec)

/-- ITS FALSE NEIGHBOUR: 'it returns false'. Refute it at one input. -/
def fnExactRowArrayWrong : ChangeSpec := { name := "fnExactRowArray", fn := fun _ => fun
  | [d1, d2, d3] => { results := [.lit (.bool false)], args := [d1, d2, d3] }
  | _ => none }
def FnExactRowArrayWrongFalsely : Prop := fnExactRowArrayRow.holds Try.pinned (OpenSpec.ofChange fnExactRowArrayWrong)

/-- 'laws.FnExactRowArrayBack': WHATEVER THE INPUT: true; the input reads as it did. -/
def fnExactRowArrayBackSpec : ChangeSpec := { name := "fnExactRowArrayBack", fn := fun _ => fun
  | [d1, d2, d3] => { results := [.lit (.bool true)], args := [d1, d2, d3] }
  | _ => none }
def fnExactRowArrayBackRow : OpenClaim := { program := "ytpcehliabaakeaa", sum := "08b7af37271ccc8469095fb34d667ff32a63bd7b0244b32195632d71af5e4062", func := "loop.example/g01138/laws.FnExactRowArrayBack", spec := "fnExactRowArrayBack", apart := false }
def FnExactRowArrayBackSaid : Prop := fnExactRowArrayBackRow.holds Try.pinned (OpenSpec.ofChange fnExactRowArrayBackSpec)

/-- ITS FALSE NEIGHBOUR: 'it returns false'. Refute it at one input. -/
def fnExactRowArrayBackWrong : ChangeSpec := { name := "fnExactRowArrayBack", fn := fun _ => fun
  | [d1, d2, d3] => { results := [.lit (.bool false)], args := [d1, d2, d3] }
  | _ => none }
def FnExactRowArrayBackWrongFalsely : Prop := fnExactRowArrayBackRow.holds Try.pinned (OpenSpec.ofChange fnExactRowArrayBackWrong)

/-- 'laws.FnExactRowArrayTimes': WHATEVER THE INPUT: true; the input reads as it did. -/
def fnExactRowArrayTimesSpec : ChangeSpec := { name := "fnExactRowArrayTimes", fn := fun _ => fun
  | [d1, d2, d3, d4] => { results := [.lit (.bool true)], args := [d1, d2, d3, d4] }
  | _ => none }
def fnExactRowArrayTimesRow : OpenClaim := { program := "ytpcehliabaakeaa", sum := "08b7af37271ccc8469095fb34d667ff32a63bd7b0244b32195632d71af5e4062", func := "loop.example/g01138/laws.FnExactRowArrayTimes", spec := "fnExactRowArrayTimes", apart := false }
def FnExactRowArrayTimesSaid : Prop := fnExactRowArrayTimesRow.holds Try.pinned (OpenSpec.ofChange fnExactRowArrayTimesSpec)

/-- ITS FALSE NEIGHBOUR: 'it returns false'. Refute it at one input. -/
def fnExactRowArrayTimesWrong : ChangeSpec := { name := "fnExactRowArrayTimes", fn := fun _ => fun
  | [d1, d2, d3, d4] => { results := [.lit (.bool false)], args := [d1, d2, d3, d4] }
  | _ => none }
def FnExactRowArrayTimesWrongFalsely : Prop := fnExactRowArrayTimesRow.holds Try.pinned (OpenSpec.ofChange fnExactRowArrayTimesWrong)

/-- 'laws.FnExactRowByRanks': WHATEVER THE INPUT: true; the input reads as it did. -/
def fnExactRowByRanksSpec : ChangeSpec := { name := "fnExactRowByRanks", fn := fun _ => fun
  | [d1, d2] => { results := [.lit (.bool true)], args := [d1, d2] }
  | _ => none }
def fnExactRowByRanksRow : OpenClaim := { program := "ytpcehliabaakeaa", sum := "08b7af37271ccc8469095fb34d667ff32a63bd7b0244b32195632d71af5e4062", func := "loop.example/g01138/laws.FnExactRowByRanks", spec := "fnExactRowByRanks", unfollowed := true, recurses := true, apart := false }
def FnExactRowByRanksSaid : Prop := fnExactRowByRanksRow.holds Try.pinned (OpenSpec.ofChange fnExactRowByRanksSpec)

/-- ITS FALSE NEIGHBOUR: 'it returns false'. Refute it at one input. -/
def fnExactRowByRanksWrong : ChangeSpec := { name := "fnExactRowByRanks", fn := fun _ => fun
  | [d1, d2] => { results := [.lit (.bool false)], args := [d1, d2] }
  | _ => none }
def FnExactRowByRanksWrongFalsely : Prop := fnExactRowByRanksRow.holds Try.pinned (OpenSpec.ofChange fnExactRowByRanksWrong)

/-- 'laws.FnExactRowvacuationWord': WHATEVER THE INPUT: true; the input reads as it did. -/
def fnExactRowvacuationWordSpec : ChangeSpec := { name := "fnExactRowvacuationWord", fn := fun _ => fun
  | [d] => { results := [.lit (.bool true)], args := [d] }
  | _ => none }
def fnExactRowvacuationWordRow : OpenClaim := { program := "ytpcehliabaakeaa", sum := "08b7af37271ccc8469095fb34d667ff32a63bd7b0244b32195632d71af5e4062", func := "loop.example/g01138/laws.FnExactRowvacuationWord", spec := "fnExactRowvacuationWord", unfollowed := true, recurses := true, apart := false }
def FnExactRowvacuationWordSaid : Prop := fnExactRowvacuationWordRow.holds Try.pinned (OpenSpec.ofChange fnExactRowvacuationWordSpec)

/-- ITS FALSE NEIGHBOUR: 'it returns false'. Refute it at one input. -/
def fnExactRowvacuationWordWrong : ChangeSpec := { name := "fnExactRowvacuationWord", fn := fun _ => fun
  | [d] => { results := [.lit (.bool false)], args := [d] }
  | _ => none }
def FnExactRowvacuationWordWrongFalsely : Prop := fnExactRowvacuationWordRow.holds Try.pinned (OpenSpec.ofChange fnExactRowvacuationWordWrong)

/-- 'laws.FnExactToggleRank': WHATEVER THE INPUT: true; the input reads as it did. -/
def fnExactToggleRankSpec : ChangeSpec := { name := "fnExactToggleRank", fn := fun _ => fun
  | [d1, d2, d3] => { results := [.lit (.bool true)], args := [d1, d2, d3] }
  | _ => none }
def fnExactToggleRankRow : OpenClaim := { program := "ytpcehliabaakeaa", sum := "08b7af37271ccc8469095fb34d667ff32a63bd7b0244b32195632d71af5e4062", func := "loop.example/g01138/laws.FnExactToggleRank", spec := "fnExactToggleRank", unfollowed := true, recurses := true, apart := false }
def FnExactToggleRankSaid : Prop := fnExactToggleRankRow.holds Try.pinned (OpenSpec.ofChange fnExactToggleRankSpec)

/-- ITS FALSE NEIGHBOUR: 'it returns false'. Refute it at one input. -/
def fnExactToggleRankWrong : ChangeSpec := { name := "fnExactToggleRank", fn := fun _ => fun
  | [d1, d2, d3] => { results := [.lit (.bool false)], args := [d1, d2, d3] }
  | _ => none }
def FnExactToggleRankWrongFalsely : Prop := fnExactToggleRankRow.holds Try.pinned (OpenSpec.ofChange fnExactToggleRankWrong)

/-- 'laws.FnExactToggleRanks': WHATEVER THE INPUT: true; the input reads as it did. -/
def fnExactToggleRanksSpec : ChangeSpec := { name := "fnExactToggleRanks", fn := fun _ => fun
  | [d1, d2, d3] => { results := [.lit (.bool true)], args := [d1, d2, d3] }
  | _ => none }
def fnExactToggleRanksRow : OpenClaim := { program := "ytpcehliabaakeaa", sum := "08b7af37271ccc8469095fb34d667ff32a63bd7b0244b32195632d71af5e4062", func := "loop.example/g01138/laws.FnExactToggleRanks", spec := "fnExactToggleRanks", unfollowed := true, recurses := true, apart := false }
def FnExactToggleRanksSaid : Prop := fnExactToggleRanksRow.holds Try.pinned (OpenSpec.ofChange fnExactToggleRanksSpec)

/-- ITS FALSE NEIGHBOUR: 'it returns false'. Refute it at one input. -/
def fnExactToggleRanksWrong : ChangeSpec := { name := "fnExactToggleRanks", fn := fun _ => fun
  | [d1, d2, d3] => { results := [.lit (.bool false)], args := [d1, d2, d3] }
  | _ => none }
def FnExactToggleRanksWrongFalsely : Prop := fnExactToggleRanksRow.holds Try.pinned (OpenSpec.ofChange fnExactToggleRanksWrong)

/- THE SECOND FORM. 'bulk': how many values and letters a reading holds, each counted each time it is reached (what is shared counts as often as it is met; a slice's spare places count too). A statement '..UptoSaid' is the law's where the arguments, and the package variables that the reading takes, are together of bulk at most 1048576: NARROWER than '..Said'. Prove '..Said' where nothing that the law and all that it calls make is longer than what came in: it says more and counts as full. Else prove '..UptoSaid'. A law counts once. -/
mutual
def uptoBulk {H : Type} : DataW H → Nat
  | .lit (.string bytes) => bytes.length + 1
  | .lit _ => 1
  | .nil => 1
  | .ptr d => uptoBulk d + 1
  | .slice elems spare => uptoBulkAll elems + uptoBulkAll spare + 1
  | .agg parts => uptoBulkAll parts + 1
  | .iface _ d => uptoBulk d + 1
  | .map entries => uptoBulkEntries entries + 1
  | .held _ => 1
def uptoBulkAll {H : Type} : List (DataW H) → Nat
  | [] => 0
  | d :: r => uptoBulk d + uptoBulkAll r
def uptoBulkEntries {H : Type} : List (Lit × DataW H) → Nat
  | [] => 0
  | x :: r => uptoBulkEntry x + uptoBulkEntries r
def uptoBulkEntry {H : Type} : Lit × DataW H → Nat
  | (.string bytes, d) => bytes.length + uptoBulk d + 1
  | (_, d) => uptoBulk d + 1
 end
def uptoSmall : (H : Type) → List (DataW H) → Bool := fun _ ds => decide (uptoBulkAll ds ≤ 1048576)
def OpenSpec.upto (s : _root_.Go.ChangeSpec) : _root_.Go.OpenSpec := { _root_.Go.OpenSpec.ofChange s with cond := some uptoSmall }

/-- 'laws.FnExactAllArrays', WHERE WHAT IT READS IS OF BULK AT MOST 1048576: true; the input reads as it did. -/
def fnExactAllArraysUptoRow : OpenClaim := { program := "ytpcehliabaakeaa", sum := "08b7af37271ccc8469095fb34d667ff32a63bd7b0244b32195632d71af5e4062", func := "loop.example/g01138/laws.FnExactAllArrays", spec := "fnExactAllArrays", unfollowed := true, recurses := true, apart := false, narrowed := true }
def FnExactAllArraysUptoSaid : Prop := fnExactAllArraysUptoRow.holds Try.pinned (OpenSpec.upto fnExactAllArraysSpec)

/-- 'laws.FnExactToggleNumber', WHERE WHAT IT READS IS OF BULK AT MOST 1048576: true; the input reads as it did. -/
def fnExactToggleNumberUptoRow : OpenClaim := { program := "ytpcehliabaakeaa", sum := "08b7af37271ccc8469095fb34d667ff32a63bd7b0244b32195632d71af5e4062", func := "loop.example/g01138/laws.FnExactToggleNumber", spec := "fnExactToggleNumber", unfollowed := true, recurses := true, apart := false, narrowed := true }
def FnExactToggleNumberUptoSaid : Prop := fnExactToggleNumberUptoRow.holds Try.pinned (OpenSpec.upto fnExactToggleNumberSpec)

/-- 'laws.FnExactToggleNumbers', WHERE WHAT IT READS IS OF BULK AT MOST 1048576: true; the input reads as it did. -/
def fnExactToggleNumbersUptoRow : OpenClaim := { program := "ytpcehliabaakeaa", sum := "08b7af37271ccc8469095fb34d667ff32a63bd7b0244b32195632d71af5e4062", func := "loop.example/g01138/laws.FnExactToggleNumbers", spec := "fnExactToggleNumbers", unfollowed := true, recurses := true, apart := false, narrowed := true }
def FnExactToggleNumbersUptoSaid : Prop := fnExactToggleNumbersUptoRow.holds Try.pinned (OpenSpec.upto fnExactToggleNumbersSpec)

/-- 'laws.FnExactRanksOf', WHERE WHAT IT READS IS OF BULK AT MOST 1048576: true; the input reads as it did. -/
def fnExactRanksOfUptoRow : OpenClaim := { program := "ytpcehliabaakeaa", sum := "08b7af37271ccc8469095fb34d667ff32a63bd7b0244b32195632d71af5e4062", func := "loop.example/g01138/laws.FnExactRanksOf", spec := "fnExactRanksOf", unfollowed := true, recurses := true, apart := false, narrowed := true }
def FnExactRanksOfUptoSaid : Prop := fnExactRanksOfUptoRow.holds Try.pinned (OpenSpec.upto fnExactRanksOfSpec)

/-- 'laws.FnExactHookPolynomial', WHERE WHAT IT READS IS OF BULK AT MOST 1048576: true; the input reads as it did. -/
def fnExactHookPolynomialUptoRow : OpenClaim := { program := "ytpcehliabaakeaa", sum := "08b7af37271ccc8469095fb34d667ff32a63bd7b0244b32195632d71af5e4062", func := "loop.example/g01138/laws.FnExactHookPolynomial", spec := "fnExactHookPolynomial", unfollowed := true, recurses := true, apart := false, narrowed := true }
def FnExactHookPolynomialUptoSaid : Prop := fnExactHookPolynomialUptoRow.holds Try.pinned (OpenSpec.upto fnExactHookPolynomialSpec)

/-- 'laws.FnExactRowArray', WHERE WHAT IT READS IS OF BULK AT MOST 1048576: true; the input reads as it did. -/
def fnExactRowArrayUptoRow : OpenClaim := { program := "ytpcehliabaakeaa", sum := "08b7af37271ccc8469095fb34d667ff32a63bd7b0244b32195632d71af5e4062", func := "loop.example/g01138/laws.FnExactRowArray", spec := "fnExactRowArray", apart := false, narrowed := true }
def FnExactRowArrayUptoSaid : Prop := fnExactRowArrayUptoRow.holds Try.pinned (OpenSpec.upto fnExactRowArraySpec)

/-- 'laws.FnExactRowArrayBack', WHERE WHAT IT READS IS OF BULK AT MOST 1048576: true; the input reads as it did. -/
def fnExactRowArrayBackUptoRow : OpenClaim := { program := "ytpcehliabaakeaa", sum := "08b7af37271ccc8469095fb34d667ff32a63bd7b0244b32195632d71af5e4062", func := "loop.example/g01138/laws.FnExactRowArrayBack", spec := "fnExactRowArrayBack", apart := false, narrowed := true }
def FnExactRowArrayBackUptoSaid : Prop := fnExactRowArrayBackUptoRow.holds Try.pinned (OpenSpec.upto fnExactRowArrayBackSpec)

/-- 'laws.FnExactRowArrayTimes', WHERE WHAT IT READS IS OF BULK AT MOST 1048576: true; the input reads as it did. -/
def fnExactRowArrayTimesUptoRow : OpenClaim := { program := "ytpcehliabaakeaa", sum := "08b7af37271ccc8469095fb34d667ff32a63bd7b0244b32195632d71af5e4062", func := "loop.example/g01138/laws.FnExactRowArrayTimes", spec := "fnExactRowArrayTimes", apart := false, narrowed := true }
def FnExactRowArrayTimesUptoSaid : Prop := fnExactRowArrayTimesUptoRow.holds Try.pinned (OpenSpec.upto fnExactRowArrayTimesSpec)

/-- 'laws.FnExactRowByRanks', WHERE WHAT IT READS IS OF BULK AT MOST 1048576: true; the input reads as it did. -/
def fnExactRowByRanksUptoRow : OpenClaim := { program := "ytpcehliabaakeaa", sum := "08b7af37271ccc8469095fb34d667ff32a63bd7b0244b32195632d71af5e4062", func := "loop.example/g01138/laws.FnExactRowByRanks", spec := "fnExactRowByRanks", unfollowed := true, recurses := true, apart := false, narrowed := true }
def FnExactRowByRanksUptoSaid : Prop := fnExactRowByRanksUptoRow.holds Try.pinned (OpenSpec.upto fnExactRowByRanksSpec)

/-- 'laws.FnExactRowvacuationWord', WHERE WHAT IT READS IS OF BULK AT MOST 1048576: true; the input reads as it did. -/
def fnExactRowvacuationWordUptoRow : OpenClaim := { program := "ytpcehliabaakeaa", sum := "08b7af37271ccc8469095fb34d667ff32a63bd7b0244b32195632d71af5e4062", func := "loop.example/g01138/laws.FnExactRowvacuationWord", spec := "fnExactRowvacuationWord", unfollowed := true, recurses := true, apart := false, narrowed := true }
def FnExactRowvacuationWordUptoSaid : Prop := fnExactRowvacuationWordUptoRow.holds Try.pinned (OpenSpec.upto fnExactRowvacuationWordSpec)

/-- 'laws.FnExactToggleRank', WHERE WHAT IT READS IS OF BULK AT MOST 1048576: true; the input reads as it did. -/
def fnExactToggleRankUptoRow : OpenClaim := { program := "ytpcehliabaakeaa", sum := "08b7af37271ccc8469095fb34d667ff32a63bd7b0244b32195632d71af5e4062", func := "loop.example/g01138/laws.FnExactToggleRank", spec := "fnExactToggleRank", unfollowed := true, recurses := true, apart := false, narrowed := true }
def FnExactToggleRankUptoSaid : Prop := fnExactToggleRankUptoRow.holds Try.pinned (OpenSpec.upto fnExactToggleRankSpec)

/-- 'laws.FnExactToggleRanks', WHERE WHAT IT READS IS OF BULK AT MOST 1048576: true; the input reads as it did. -/
def fnExactToggleRanksUptoRow : OpenClaim := { program := "ytpcehliabaakeaa", sum := "08b7af37271ccc8469095fb34d667ff32a63bd7b0244b32195632d71af5e4062", func := "loop.example/g01138/laws.FnExactToggleRanks", spec := "fnExactToggleRanks", unfollowed := true, recurses := true, apart := false, narrowed := true }
def FnExactToggleRanksUptoSaid : Prop := fnExactToggleRanksUptoRow.holds Try.pinned (OpenSpec.upto fnExactToggleRanksSpec)

end Rows
end Go.Proofs.Ytpcehliabaakeaa
