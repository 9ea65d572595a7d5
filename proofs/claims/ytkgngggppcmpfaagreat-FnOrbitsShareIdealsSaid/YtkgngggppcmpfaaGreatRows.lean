/-
  No cell of these rows narrows 'for every input' (looked for: loops, veiled, ifaces, maps, wideKeys, modest, calm, conditions, laid).
  DERIVED. THE GIVEN ROWS OF THIS SEAT. 7 by the template 'for every input the law returns true; each argument reads behind the call as it read before'; 0 by the template 'total and deterministic' (their statements: YtkgngggppcmpfaaGreatTotals.lean).
  GIVEN WITH THE SEED: the statements are not yours to turn. If you find one false, say at which input.
  Laid BY PROGRAM, IN A SANDBOX (cutbox-rows.mjs): the forced cells as the released guide's own fill.sh prints them over the translation 74c9f55c19c01626… (all of the seat's roots in one cut). By AI agents, Wed Nov 11 2026. No macro, syntax, notation, axiom, sorry.
-/
import Derived.Test.YtkgngggppcmpfaaGreatChecked
import GoSem.Claim
import GoSem.ClaimJoined
import GoSem.ClaimMapViews
import Derived.JoinedTies
import Derived.KernelRfl
namespace Go.Proofs.YtkgngggppcmpfaaGreat
/- THE CELL 'sum', in the pinned program and in every row, IS THE sha256 OF THE DUMP (.gsa) THAT YtkgngggppcmpfaaGreatProg.lean LOADS. Nothing in Lean hashes anything: it is a label: what it is worth is what the hold of that sum in a sandbox is worth. -/
noncomputable def Tryz.pinned : Pinned := { name := "ytkgngggppcmpfaagreat", sum := "74c9f55c19c0162688994feef1964e8cf1037ebe1a3e7bb325d918fefca0ca2e", checked := Tryz.checked }
namespace Rows
def none {H : Type} : Left H := { results := [], args := [] }

/-- 'laws.FnRowvacuation': WHATEVER THE INPUT: true; the input reads as it did. -/
def fnRowvacuationSpec : ChangeSpec := { name := "fnRowvacuation", fn := fun _ => fun
  | [d1, d2] => { results := [.lit (.bool true)], args := [d1, d2] }
  | _ => none }
def fnRowvacuationRow : OpenClaim := { program := "ytkgngggppcmpfaagreat", sum := "74c9f55c19c0162688994feef1964e8cf1037ebe1a3e7bb325d918fefca0ca2e", func := "loop.example/g01138/laws.FnRowvacuation", spec := "fnRowvacuation", unfollowed := true, recurses := true, plainKeys := false, apart := false }
def FnRowvacuationSaid : Prop := fnRowvacuationRow.holds Tryz.pinned (OpenSpec.ofChange fnRowvacuationSpec)

/-- ITS FALSE NEIGHBOUR: 'it returns false'. Refute it at one input. -/
def fnRowvacuationWrong : ChangeSpec := { name := "fnRowvacuation", fn := fun _ => fun
  | [d1, d2] => { results := [.lit (.bool false)], args := [d1, d2] }
  | _ => none }
def FnRowvacuationWrongFalsely : Prop := fnRowvacuationRow.holds Tryz.pinned (OpenSpec.ofChange fnRowvacuationWrong)

/-- 'laws.FnOrbitsShareIdeals': WHATEVER THE INPUT: true; the input reads as it did. -/
def fnOrbitsShareIdealsSpec : ChangeSpec := { name := "fnOrbitsShareIdeals", fn := fun _ => fun
  | [d1, d2] => { results := [.lit (.bool true)], args := [d1, d2] }
  | _ => none }
def fnOrbitsShareIdealsRow : OpenClaim := { program := "ytkgngggppcmpfaagreat", sum := "74c9f55c19c0162688994feef1964e8cf1037ebe1a3e7bb325d918fefca0ca2e", func := "loop.example/g01138/laws.FnOrbitsShareIdeals", spec := "fnOrbitsShareIdeals", unfollowed := true, recurses := true, plainKeys := false, apart := false }
def FnOrbitsShareIdealsSaid : Prop := fnOrbitsShareIdealsRow.holds Tryz.pinned (OpenSpec.ofChange fnOrbitsShareIdealsSpec)

/-- ITS FALSE NEIGHBOUR: 'it returns false'. Refute it at one input. -/
def fnOrbitsShareIdealsWrong : ChangeSpec := { name := "fnOrbitsShareIdeals", fn := fun _ => fun
  | [d1, d2] => { results := [.lit (.bool false)], args := [d1, d2] }
  | _ => none }
def FnOrbitsShareIdealsWrongFalsely : Prop := fnOrbitsShareIdealsRow.holds Tryz.pinned (OpenSpec.ofChange fnOrbitsShareIdealsWrong)

/-- 'laws.FnSievesOfRows': WHATEVER THE INPUT: true; the input reads as it did. -/
def fnSievesOfRowsSpec : ChangeSpec := { name := "fnSievesOfRows", fn := fun _ => fun
  | [d1, d2] => { results := [.lit (.bool true)], args := [d1, d2] }
  | _ => none }
def fnSievesOfRowsRow : OpenClaim := { program := "ytkgngggppcmpfaagreat", sum := "74c9f55c19c0162688994feef1964e8cf1037ebe1a3e7bb325d918fefca0ca2e", func := "loop.example/g01138/laws.FnSievesOfRows", spec := "fnSievesOfRows", unfollowed := true, recurses := true, plainKeys := false, apart := false }
def FnSievesOfRowsSaid : Prop := fnSievesOfRowsRow.holds Tryz.pinned (OpenSpec.ofChange fnSievesOfRowsSpec)

/-- ITS FALSE NEIGHBOUR: 'it returns false'. Refute it at one input. -/
def fnSievesOfRowsWrong : ChangeSpec := { name := "fnSievesOfRows", fn := fun _ => fun
  | [d1, d2] => { results := [.lit (.bool false)], args := [d1, d2] }
  | _ => none }
def FnSievesOfRowsWrongFalsely : Prop := fnSievesOfRowsRow.holds Tryz.pinned (OpenSpec.ofChange fnSievesOfRowsWrong)

/-- 'laws.FnRanksMakeRowmotion': WHATEVER THE INPUT: true; the input reads as it did. -/
def fnRanksMakeRowmotionSpec : ChangeSpec := { name := "fnRanksMakeRowmotion", fn := fun _ => fun
  | [d1, d2] => { results := [.lit (.bool true)], args := [d1, d2] }
  | _ => none }
def fnRanksMakeRowmotionRow : OpenClaim := { program := "ytkgngggppcmpfaagreat", sum := "74c9f55c19c0162688994feef1964e8cf1037ebe1a3e7bb325d918fefca0ca2e", func := "loop.example/g01138/laws.FnRanksMakeRowmotion", spec := "fnRanksMakeRowmotion", unfollowed := true, recurses := true, plainKeys := false, apart := false }
def FnRanksMakeRowmotionSaid : Prop := fnRanksMakeRowmotionRow.holds Tryz.pinned (OpenSpec.ofChange fnRanksMakeRowmotionSpec)

/-- ITS FALSE NEIGHBOUR: 'it returns false'. Refute it at one input. -/
def fnRanksMakeRowmotionWrong : ChangeSpec := { name := "fnRanksMakeRowmotion", fn := fun _ => fun
  | [d1, d2] => { results := [.lit (.bool false)], args := [d1, d2] }
  | _ => none }
def FnRanksMakeRowmotionWrongFalsely : Prop := fnRanksMakeRowmotionRow.holds Tryz.pinned (OpenSpec.ofChange fnRanksMakeRowmotionWrong)

/-- 'laws.FnSumsOverOrbits': WHATEVER THE INPUT: true; the input reads as it did. -/
def fnSumsOverOrbitsSpec : ChangeSpec := { name := "fnSumsOverOrbits", fn := fun _ => fun
  | [d1, d2] => { results := [.lit (.bool true)], args := [d1, d2] }
  | _ => none }
def fnSumsOverOrbitsRow : OpenClaim := { program := "ytkgngggppcmpfaagreat", sum := "74c9f55c19c0162688994feef1964e8cf1037ebe1a3e7bb325d918fefca0ca2e", func := "loop.example/g01138/laws.FnSumsOverOrbits", spec := "fnSumsOverOrbits", unfollowed := true, recurses := true, plainKeys := false, apart := false }
def FnSumsOverOrbitsSaid : Prop := fnSumsOverOrbitsRow.holds Tryz.pinned (OpenSpec.ofChange fnSumsOverOrbitsSpec)

/-- ITS FALSE NEIGHBOUR: 'it returns false'. Refute it at one input. -/
def fnSumsOverOrbitsWrong : ChangeSpec := { name := "fnSumsOverOrbits", fn := fun _ => fun
  | [d1, d2] => { results := [.lit (.bool false)], args := [d1, d2] }
  | _ => none }
def FnSumsOverOrbitsWrongFalsely : Prop := fnSumsOverOrbitsRow.holds Tryz.pinned (OpenSpec.ofChange fnSumsOverOrbitsWrong)

/-- 'laws.FnMajorNumbers': WHATEVER THE INPUT: true; the input reads as it did. -/
def fnMajorNumbersSpec : ChangeSpec := { name := "fnMajorNumbers", fn := fun _ => fun
  | [d1, d2] => { results := [.lit (.bool true)], args := [d1, d2] }
  | _ => none }
def fnMajorNumbersRow : OpenClaim := { program := "ytkgngggppcmpfaagreat", sum := "74c9f55c19c0162688994feef1964e8cf1037ebe1a3e7bb325d918fefca0ca2e", func := "loop.example/g01138/laws.FnMajorNumbers", spec := "fnMajorNumbers", unfollowed := true, recurses := true, plainKeys := false, apart := false }
def FnMajorNumbersSaid : Prop := fnMajorNumbersRow.holds Tryz.pinned (OpenSpec.ofChange fnMajorNumbersSpec)

/-- ITS FALSE NEIGHBOUR: 'it returns false'. Refute it at one input. -/
def fnMajorNumbersWrong : ChangeSpec := { name := "fnMajorNumbers", fn := fun _ => fun
  | [d1, d2] => { results := [.lit (.bool false)], args := [d1, d2] }
  | _ => none }
def FnMajorNumbersWrongFalsely : Prop := fnMajorNumbersRow.holds Tryz.pinned (OpenSpec.ofChange fnMajorNumbersWrong)

/-- 'laws.FnSievesOfTableaux': WHATEVER THE INPUT: true; the input reads as it did. -/
def fnSievesOfTableauxSpec : ChangeSpec := { name := "fnSievesOfTableaux", fn := fun _ => fun
  | [d1, d2] => { results := [.lit (.bool true)], args := [d1, d2] }
  | _ => none }
def fnSievesOfTableauxRow : OpenClaim := { program := "ytkgngggppcmpfaagreat", sum := "74c9f55c19c0162688994feef1964e8cf1037ebe1a3e7bb325d918fefca0ca2e", func := "loop.example/g01138/laws.FnSievesOfTableaux", spec := "fnSievesOfTableaux", unfollowed := true, recurses := true, plainKeys := false, apart := false }
def FnSievesOfTableauxSaid : Prop := fnSievesOfTableauxRow.holds Tryz.pinned (OpenSpec.ofChange fnSievesOfTableauxSpec)

/-- ITS FALSE NEIGHBOUR: 'it returns false'. Refute it at one input. -/
def fnSievesOfTableauxWrong : ChangeSpec := { name := "fnSievesOfTableaux", fn := fun _ => fun
  | [d1, d2] => { results := [.lit (.bool false)], args := [d1, d2] }
  | _ => none }
def FnSievesOfTableauxWrongFalsely : Prop := fnSievesOfTableauxRow.holds Tryz.pinned (OpenSpec.ofChange fnSievesOfTableauxWrong)

/- THE SECOND FORM. 'bulk': how many values and letters a reading holds, each counted each time it is reached (what is shared counts as often as it is met; a slice's spare places count too). A statement '..UptoSaid' is the law's where the arguments, and the package variables that the reading takes, are together of bulk at most 1048576: NARROWER than '..Said'. Prove '..Said' where nothing that the law and all that it calls make is longer than what came in: it says more and counts as full. Else prove '..UptoSaid'. A law counts once. -/
mutual
def uptoBulk {H : Type} : DataW H → Nat
  | .lit (.string bytes) => bytes.length + 1
  | .lit _ => 1
  | .nil => 1
  | .ptr d => uptoBulk d + 1
  | .slice elems spare => uptoBulkAll elems + uptoBulkAll spare + 1
  | .agg parts => uptoBulkAll parts + 1
  | .iface _ d => uptoBulk d + 1
  | .map entries => uptoBulkEntries entries + 1
  | .held _ => 1
def uptoBulkAll {H : Type} : List (DataW H) → Nat
  | [] => 0
  | d :: r => uptoBulk d + uptoBulkAll r
def uptoBulkEntries {H : Type} : List (Lit × DataW H) → Nat
  | [] => 0
  | x :: r => uptoBulkEntry x + uptoBulkEntries r
def uptoBulkEntry {H : Type} : Lit × DataW H → Nat
  | (.string bytes, d) => bytes.length + uptoBulk d + 1
  | (_, d) => uptoBulk d + 1
 end
def uptoSmall : (H : Type) → List (DataW H) → Bool := fun _ ds => decide (uptoBulkAll ds ≤ 1048576)
def OpenSpec.upto (s : _root_.Go.ChangeSpec) : _root_.Go.OpenSpec := { _root_.Go.OpenSpec.ofChange s with cond := some uptoSmall }

/-- 'laws.FnRowvacuation', WHERE WHAT IT READS IS OF BULK AT MOST 1048576: true; the input reads as it did. -/
def fnRowvacuationUptoRow : OpenClaim := { program := "ytkgngggppcmpfaagreat", sum := "74c9f55c19c0162688994feef1964e8cf1037ebe1a3e7bb325d918fefca0ca2e", func := "loop.example/g01138/laws.FnRowvacuation", spec := "fnRowvacuation", unfollowed := true, recurses := true, plainKeys := false, apart := false, narrowed := true }
def FnRowvacuationUptoSaid : Prop := fnRowvacuationUptoRow.holds Tryz.pinned (OpenSpec.upto fnRowvacuationSpec)

/-- 'laws.FnOrbitsShareIdeals', WHERE WHAT IT READS IS OF BULK AT MOST 1048576: true; the input reads as it did. -/
def fnOrbitsShareIdealsUptoRow : OpenClaim := { program := "ytkgngggppcmpfaagreat", sum := "74c9f55c19c0162688994feef1964e8cf1037ebe1a3e7bb325d918fefca0ca2e", func := "loop.example/g01138/laws.FnOrbitsShareIdeals", spec := "fnOrbitsShareIdeals", unfollowed := true, recurses := true, plainKeys := false, apart := false, narrowed := true }
def FnOrbitsShareIdealsUptoSaid : Prop := fnOrbitsShareIdealsUptoRow.holds Tryz.pinned (OpenSpec.upto fnOrbitsShareIdealsSpec)

/-- 'laws.FnSievesOfRows', WHERE WHAT IT READS IS OF BULK AT MOST 1048576: true; the input reads as it did. -/
def fnSievesOfRowsUptoRow : OpenClaim := { program := "ytkgngggppcmpfaagreat", sum := "74c9f55c19c0162688994feef1964e8cf1037ebe1a3e7bb325d918fefca0ca2e", func := "loop.example/g01138/laws.FnSievesOfRows", spec := "fnSievesOfRows", unfollowed := true, recurses := true, plainKeys := false, apart := false, narrowed := true }
def FnSievesOfRowsUptoSaid : Prop := fnSievesOfRowsUptoRow.holds Tryz.pinned (OpenSpec.upto fnSievesOfRowsSpec)

/-- 'laws.FnRanksMakeRowmotion', WHERE WHAT IT READS IS OF BULK AT MOST 1048576: true; the input reads as it did. -/
def fnRanksMakeRowmotionUptoRow : OpenClaim := { program := "ytkgngggppcmpfaagreat", sum := "74c9f55c19c0162688994feef1964e8cf1037ebe1a3e7bb325d918fefca0ca2e", func := "loop.example/g01138/laws.FnRanksMakeRowmotion", spec := "fnRanksMakeRowmotion", unfollowed := true, recurses := true, plainKeys := false, apart := false, narrowed := true }
def FnRanksMakeRowmotionUptoSaid : Prop := fnRanksMakeRowmotionUptoRow.holds Tryz.pinned (OpenSpec.upto fnRanksMakeRowmotionSpec)

/-- 'laws.FnSumsOverOrbits', WHERE WHAT IT READS IS OF BULK AT MOST 1048576: true; the input reads as it did. -/
def fnSumsOverOrbitsUptoRow : OpenClaim := { program := "ytkgngggppcmpfaagreat", sum := "74c9f55c19c0162688994feef1964e8cf1037ebe1a3e7bb325d918fefca0ca2e", func := "loop.example/g01138/laws.FnSumsOverOrbits", spec := "fnSumsOverOrbits", unfollowed := true, recurses := true, plainKeys := false, apart := false, narrowed := true }
def FnSumsOverOrbitsUptoSaid : Prop := fnSumsOverOrbitsUptoRow.holds Tryz.pinned (OpenSpec.upto fnSumsOverOrbitsSpec)

/-- 'laws.FnMajorNumbers', WHERE WHAT IT READS IS OF BULK AT MOST 1048576: true; the input reads as it did. -/
def fnMajorNumbersUptoRow : OpenClaim := { program := "ytkgngggppcmpfaagreat", sum := "74c9f55c19c0162688994feef1964e8cf1037ebe1a3e7bb325d918fefca0ca2e", func := "loop.example/g01138/laws.FnMajorNumbers", spec := "fnMajorNumbers", unfollowed := true, recurses := true, plainKeys := false, apart := false, narrowed := true }
def FnMajorNumbersUptoSaid : Prop := fnMajorNumbersUptoRow.holds Tryz.pinned (OpenSpec.upto fnMajorNumbersSpec)

/-- 'laws.FnSievesOfTableaux', WHERE WHAT IT READS IS OF BULK AT MOST 1048576: true; the input reads as it did. -/
def fnSievesOfTableauxUptoRow : OpenClaim := { program := "ytkgngggppcmpfaagreat", sum := "74c9f55c19c0162688994feef1964e8cf1037ebe1a3e7bb325d918fefca0ca2e", func := "loop.example/g01138/laws.FnSievesOfTableaux", spec := "fnSievesOfTableaux", unfollowed := true, recurses := true, plainKeys := false, apart := false, narrowed := true }
def FnSievesOfTableauxUptoSaid : Prop := fnSievesOfTableauxUptoRow.holds Tryz.pinned (OpenSpec.upto fnSievesOfTableauxSpec)

end Rows
end Go.Proofs.YtkgngggppcmpfaaGreat
