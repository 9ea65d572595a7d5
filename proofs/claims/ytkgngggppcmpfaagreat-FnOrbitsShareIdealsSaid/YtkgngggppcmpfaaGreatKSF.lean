/- Laws about the given program: a part of the walk of the law FnOrbitsShareIdeals; no condition is added to the given statement. -/
import Derived.Test.YtkgngggppcmpfaaGreatKSP1
import Derived.Test.YtkgngggppcmpfaaGreatKSP7
import Derived.Test.YtkgngggppcmpfaaGreatKSP8
import Derived.Test.YtkgngggppcmpfaaGreatKSP10
import Derived.Test.YtkgngggppcmpfaaGreatKSP14
import Derived.Test.YtkgngggppcmpfaaGreatKSP15
section
namespace Go.Proofs.YtkgngggppcmpfaaGreat.L
open Go.RowKit Go.Proofs.YtkgngggppcmpfaaGreatW.PrintWords Go.Proofs.YtkgngggppcmpfaaGreatW.PrintLast Go.Proofs.YtkgngggppcmpfaaGreatW.PrintMore Go.Proofs.YtkgngggppcmpfaaGreat.X
attribute [local go_sem] Q2 Q4 Qbd Qbe Qz Q0 Q3 Q5
set_option linter.unusedVariables false
set_option linter.unusedSimpArgs false
theorem laws_FnOrbitsShareIdeals.calls (k : Nat) (A0 : Option Addr) (c0 : Nat) (l0 : List Int) (A1 : Option Addr) (c1 : Nat) (l1 : List Int) (r : Bool) (w : World) (hr0 : Kd.C (Kd.int .u8) w A0 l0.length l0) (hc0 : l0.length ≤ c0) (hr1 : Kd.C (Kd.int .u8) w A1 l1.length l1) (hc1 : l1.length ≤ c1) (h : laws_FnOrbitsShareIdeals.f k l0 l1 = some r) :
 Calls Tryz.prog 4 #[.slice A0 l0.length c0, .slice A1 l1.length c1] w fun e w'=>e= .returned (.bool r)∧Below w.heap.size w w':=
 (laws_FnOrbitsShareIdeals.part24.2.2 ⟨⟨⟨laws_FnOrbitsShareIdeals.last24⟩⟩⟩ ⟨⟨⟨(laws_FnOrbitsShareIdeals.part126.2.2 ⟨⟨⟨(laws_FnOrbitsShareIdeals.part164.2 ⟨⟨⟨(laws_FnOrbitsShareIdeals.part180.2 ⟨⟨⟨(laws_FnOrbitsShareIdeals.part201.2.2 ⟨⟨⟨(laws_FnOrbitsShareIdeals.part211.2.2 ⟨⟨⟨laws_FnOrbitsShareIdeals.last211⟩⟩⟩ ⟨⟨⟨laws_FnOrbitsShareIdeals.last270⟩⟩⟩)⟩⟩⟩ ⟨⟨⟨(laws_FnOrbitsShareIdeals.part338.2 ⟨⟨⟨laws_FnOrbitsShareIdeals.last338⟩⟩⟩)⟩⟩⟩)⟩⟩⟩)⟩⟩⟩)⟩⟩⟩ ⟨⟨⟨(laws_FnOrbitsShareIdeals.part474.2 ⟨⟨⟨(laws_FnOrbitsShareIdeals.part491.2.2 ⟨⟨⟨(laws_FnOrbitsShareIdeals.part502.2 ⟨⟨⟨laws_FnOrbitsShareIdeals.last502⟩⟩⟩)⟩⟩⟩ ⟨⟨⟨laws_FnOrbitsShareIdeals.last566⟩⟩⟩)⟩⟩⟩)⟩⟩⟩)⟩⟩⟩) k A0 c0 l0 A1 c1 l1 r w hr0 hc0 hr1 hc1 h
def laws_FnOrbitsShareIdeals.Pure : Prop := ∀ (l0 : List Int) (l1 : List Int), l0.length ≤ maxLen → l0.length * 1 ≤ 140737488351232 → (∀ x ∈ l0, (Lit.int .u8 x).wf = true) → l1.length ≤ maxLen → l1.length * 1 ≤ 140737488351232 → (∀ x ∈ l1, (Lit.int .u8 x).wf = true) → ∃ k, laws_FnOrbitsShareIdeals.f k l0 l1 = some true
theorem laws_FnOrbitsShareIdeals.walk (P : laws_FnOrbitsShareIdeals.Pure) (a0 : Option Addr) (len0 cap0 : Nat) (z0 : List Int) (a1 : Option Addr) (len1 cap1 : Nat) (z1 : List Int) (w : World) (w0 : (a0 = none ∧ len0 = 0 ∧ cap0 = 0 ∧ z0 = []) ∨ ∃ x, a0 = some x ∧ len0 ≤ cap0 ∧ cap0 ≤ maxLen ∧ z0.length = cap0 ∧ (∀ i, i < z0.length → w.cell? (x.add i) = some (.int .u8 (z0.getD i 0))) ∧ ∀ n ∈ z0, (Lit.int .u8 n).wf = true) (y0 : len0 * 1 ≤ 140737488351232) (w1 : (a1 = none ∧ len1 = 0 ∧ cap1 = 0 ∧ z1 = []) ∨ ∃ x, a1 = some x ∧ len1 ≤ cap1 ∧ cap1 ≤ maxLen ∧ z1.length = cap1 ∧ (∀ i, i < z1.length → w.cell? (x.add i) = some (.int .u8 (z1.getD i 0))) ∧ ∀ n ∈ z1, (Lit.int .u8 n).wf = true) (y1 : len1 * 1 ≤ 140737488351232) :
 Calls Tryz.prog 4 #[.slice a0 len0 cap0, .slice a1 len1 cap1] w fun e w'=>e= .returned (.bool true)∧Below w.heap.size w w':=by
 obtain ⟨l0,rfl,hr0,hm0,hw0,hc0⟩:=Qc2.ofRowC w0;obtain ⟨l1,rfl,hr1,hm1,hw1,hc1⟩:=Qc2.ofRowC w1;obtain ⟨k,h⟩:=P l0 l1 hm0 y0 hw0 hm1 y1 hw1;refine (laws_FnOrbitsShareIdeals.calls k _ _ l0 _ _ l1 true w (Kd.C_of_reads (d:=(0:Int)) (h1:=fun _=>rfl) hr0) hc0 (Kd.C_of_reads (d:=(0:Int)) (h1:=fun _=>rfl) hr1) hc1 h).mono ?_;rintro e w' ⟨rfl,hd⟩;exact ⟨rfl,hd⟩
end Go.Proofs.YtkgngggppcmpfaaGreat.L
end
