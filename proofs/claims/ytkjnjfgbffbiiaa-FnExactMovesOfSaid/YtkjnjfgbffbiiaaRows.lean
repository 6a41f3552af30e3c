/-
  No cell of these rows narrows 'for every input' (looked for: loops, veiled, ifaces, maps, wideKeys, modest, calm, conditions, laid).
  DERIVED. THE GIVEN ROWS OF THIS SEAT. 5 by the template 'for every input the law returns true; each argument reads behind the call as it read before'; 0 by the template 'total and deterministic' (their statements: YtkjnjfgbffbiiaaTotals.lean).
  GIVEN WITH THE SEED: the statements are not yours to turn. If you find one false, say at which input.
  Laid BY PROGRAM, IN A SANDBOX (cutbox-rows.mjs): the forced cells as the released guide's own fill.sh prints them over the translation f7904a47fa49ba3e… (all of the seat's roots in one cut). By AI agents, Wed Nov 11 2026. No macro, syntax, notation, axiom, sorry.
-/
import Derived.Test.YtkjnjfgbffbiiaaChecked
import GoSem.Claim
import GoSem.ClaimJoined
import GoSem.ClaimMapViews
import Derived.JoinedTies
import Derived.KernelRfl
namespace Go.Proofs.Ytkjnjfgbffbiiaa
/- THE CELL 'sum', in the pinned program and in every row, IS THE sha256 OF THE DUMP (.gsa) THAT YtkjnjfgbffbiiaaProg.lean LOADS. Nothing in Lean hashes anything: it is a label: what it is worth is what the hold of that sum in a sandbox is worth. -/
noncomputable def Try.pinned : Pinned := { name := "ytkjnjfgbffbiiaa", sum := "f7904a47fa49ba3eedf6c03b4e9d9783378079e45cc74840859fac84f7c9e576", checked := Try.checked }
namespace Rows
def none {H : Type} : Left H := { results := [], args := [] }

/-- 'laws.FnExactIsPossible': WHATEVER THE INPUT: true; the input reads as it did. -/
def fnExactIsPossibleSpec : ChangeSpec := { name := "fnExactIsPossible", fn := fun _ => fun
  | [d1, d2, d3] => { results := [.lit (.bool true)], args := [d1, d2, d3] }
  | _ => none }
def fnExactIsPossibleRow : OpenClaim := { program := "ytkjnjfgbffbiiaa", sum := "f7904a47fa49ba3eedf6c03b4e9d9783378079e45cc74840859fac84f7c9e576", func := "loop.example/g01167/laws.FnExactIsPossible", spec := "fnExactIsPossible", apart := false }
def FnExactIsPossibleSaid : Prop := fnExactIsPossibleRow.holds Try.pinned (OpenSpec.ofChange fnExactIsPossibleSpec)

/-- ITS FALSE NEIGHBOUR: 'it returns false'. Refute it at one input. -/
def fnExactIsPossibleWrong : ChangeSpec := { name := "fnExactIsPossible", fn := fun _ => fun
  | [d1, d2, d3] => { results := [.lit (.bool false)], args := [d1, d2, d3] }
  | _ => none }
def FnExactIsPossibleWrongFalsely : Prop := fnExactIsPossibleRow.holds Try.pinned (OpenSpec.ofChange fnExactIsPossibleWrong)

/-- 'laws.FnExactSeatingChance': WHATEVER THE INPUT: true; the input reads as it did. -/
def fnExactSeatingChanceSpec : ChangeSpec := { name := "fnExactSeatingChance", fn := fun _ => fun
  | [d1, d2, d3] => { results := [.lit (.bool true)], args := [d1, d2, d3] }
  | _ => none }
def fnExactSeatingChanceRow : OpenClaim := { program := "ytkjnjfgbffbiiaa", sum := "f7904a47fa49ba3eedf6c03b4e9d9783378079e45cc74840859fac84f7c9e576", func := "loop.example/g01167/laws.FnExactSeatingChance", spec := "fnExactSeatingChance", apart := false }
def FnExactSeatingChanceSaid : Prop := fnExactSeatingChanceRow.holds Try.pinned (OpenSpec.ofChange fnExactSeatingChanceSpec)

/-- ITS FALSE NEIGHBOUR: 'it returns false'. Refute it at one input. -/
def fnExactSeatingChanceWrong : ChangeSpec := { name := "fnExactSeatingChance", fn := fun _ => fun
  | [d1, d2, d3] => { results := [.lit (.bool false)], args := [d1, d2, d3] }
  | _ => none }
def FnExactSeatingChanceWrongFalsely : Prop := fnExactSeatingChanceRow.holds Try.pinned (OpenSpec.ofChange fnExactSeatingChanceWrong)

/-- 'laws.FnExactFullCycles': WHATEVER THE INPUT: true; the input reads as it did. -/
def fnExactFullCyclesSpec : ChangeSpec := { name := "fnExactFullCycles", fn := fun _ => fun
  | [d1, d2, d3] => { results := [.lit (.bool true)], args := [d1, d2, d3] }
  | _ => none }
def fnExactFullCyclesRow : OpenClaim := { program := "ytkjnjfgbffbiiaa", sum := "f7904a47fa49ba3eedf6c03b4e9d9783378079e45cc74840859fac84f7c9e576", func := "loop.example/g01167/laws.FnExactFullCycles", spec := "fnExactFullCycles", apart := false }
def FnExactFullCyclesSaid : Prop := fnExactFullCyclesRow.holds Try.pinned (OpenSpec.ofChange fnExactFullCyclesSpec)

/-- ITS FALSE NEIGHBOUR: 'it returns false'. Refute it at one input. -/
def fnExactFullCyclesWrong : ChangeSpec := { name := "fnExactFullCycles", fn := fun _ => fun
  | [d1, d2, d3] => { results := [.lit (.bool false)], args := [d1, d2, d3] }
  | _ => none }
def FnExactFullCyclesWrongFalsely : Prop := fnExactFullCyclesRow.holds Try.pinned (OpenSpec.ofChange fnExactFullCyclesWrong)

/-- 'laws.FnExactTrailOf': WHATEVER THE INPUT: true; the input reads as it did. -/
def fnExactTrailOfSpec : ChangeSpec := { name := "fnExactTrailOf", fn := fun _ => fun
  | [d1, d2, d3, d4] => { results := [.lit (.bool true)], args := [d1, d2, d3, d4] }
  | _ => none }
def fnExactTrailOfRow : OpenClaim := { program := "ytkjnjfgbffbiiaa", sum := "f7904a47fa49ba3eedf6c03b4e9d9783378079e45cc74840859fac84f7c9e576", func := "loop.example/g01167/laws.FnExactTrailOf", spec := "fnExactTrailOf", apart := false }
def FnExactTrailOfSaid : Prop := fnExactTrailOfRow.holds Try.pinned (OpenSpec.ofChange fnExactTrailOfSpec)

/-- ITS FALSE NEIGHBOUR: 'it returns false'. Refute it at one input. -/
def fnExactTrailOfWrong : ChangeSpec := { name := "fnExactTrailOf", fn := fun _ => fun
  | [d1, d2, d3, d4] => { results := [.lit (.bool false)], args := [d1, d2, d3, d4] }
  | _ => none }
def FnExactTrailOfWrongFalsely : Prop := fnExactTrailOfRow.holds Try.pinned (OpenSpec.ofChange fnExactTrailOfWrong)

/-- 'laws.FnExactMovesOf': WHATEVER THE INPUT: true; the input reads as it did. -/
def fnExactMovesOfSpec : ChangeSpec := { name := "fnExactMovesOf", fn := fun _ => fun
  | [d1, d2, d3] => { results := [.lit (.bool true)], args := [d1, d2, d3] }
  | _ => none }
def fnExactMovesOfRow : OpenClaim := { program := "ytkjnjfgbffbiiaa", sum := "f7904a47fa49ba3eedf6c03b4e9d9783378079e45cc74840859fac84f7c9e576", func := "loop.example/g01167/laws.FnExactMovesOf", spec := "fnExactMovesOf", apart := false }
def FnExactMovesOfSaid : Prop := fnExactMovesOfRow.holds Try.pinned (OpenSpec.ofChange fnExactMovesOfSpec)

/-- ITS FALSE NEIGHBOUR: 'it returns false'. Refute it at one input. -/
def fnExactMovesOfWrong : ChangeSpec := { name := "fnExactMovesOf", fn := fun _ => fun
  | [d1, d2, d3] => { results := [.lit (.bool false)], args := [d1, d2, d3] }
  | _ => none }
def FnExactMovesOfWrongFalsely : Prop := fnExactMovesOfRow.holds Try.pinned (OpenSpec.ofChange fnExactMovesOfWrong)

/- THE SECOND FORM. 'bulk': how many values and letters a reading holds, each counted each time it is reached (what is shared counts as often as it is met; a slice's spare places count too). A statement '..UptoSaid' is the law's where the arguments, and the package variables that the reading takes, are together of bulk at most 1048576: NARROWER than '..Said'. Prove '..Said' where nothing that the law and all that it calls make is longer than what came in: it says more and counts as full. Else prove '..UptoSaid'. A law counts once. -/
mutual
def uptoBulk {H : Type} : DataW H → Nat
  | .lit (.string bytes) => bytes.length + 1
  | .lit _ => 1
  | .nil => 1
  | .ptr d => uptoBulk d + 1
  | .slice elems spare => uptoBulkAll elems + uptoBulkAll spare + 1
  | .agg parts => uptoBulkAll parts + 1
  | .iface _ d => uptoBulk d + 1
  | .map entries => uptoBulkEntries entries + 1
  | .held _ => 1
def uptoBulkAll {H : Type} : List (DataW H) → Nat
  | [] => 0
  | d :: r => uptoBulk d + uptoBulkAll r
def uptoBulkEntries {H : Type} : List (Lit × DataW H) → Nat
  | [] => 0
  | x :: r => uptoBulkEntry x + uptoBulkEntries r
def uptoBulkEntry {H : Type} : Lit × DataW H → Nat
  | (.string bytes, d) => bytes.length + uptoBulk d + 1
  | (_, d) => uptoBulk d + 1
 end
def uptoSmall : (H : Type) → List (DataW H) → Bool := fun _ ds => decide (uptoBulkAll ds ≤ 1048576)
def OpenSpec.upto (s : _root_.Go.ChangeSpec) : _root_.Go.OpenSpec := { _root_.Go.OpenSpec.ofChange s with cond := some uptoSmall }

/-- 'laws.FnExactIsPossible', WHERE WHAT IT READS IS OF BULK AT MOST 1048576: true; the input reads as it did. -/
def fnExactIsPossibleUptoRow : OpenClaim := { program := "ytkjnjfgbffbiiaa", sum := "f7904a47fa49ba3eedf6c03b4e9d9783378079e45cc74840859fac84f7c9e576", func := "loop.example/g01167/laws.FnExactIsPossible", spec := "fnExactIsPossible", apart := false, narrowed := true }
def FnExactIsPossibleUptoSaid : Prop := fnExactIsPossibleUptoRow.holds Try.pinned (OpenSpec.upto fnExactIsPossibleSpec)

/-- 'laws.FnExactSeatingChance', WHERE WHAT IT READS IS OF BULK AT MOST 1048576: true; the input reads as it did. -/
def fnExactSeatingChanceUptoRow : OpenClaim := { program := "ytkjnjfgbffbiiaa", sum := "f7904a47fa49ba3eedf6c03b4e9d9783378079e45cc74840859fac84f7c9e576", func := "loop.example/g01167/laws.FnExactSeatingChance", spec := "fnExactSeatingChance", apart := false, narrowed := true }
def FnExactSeatingChanceUptoSaid : Prop := fnExactSeatingChanceUptoRow.holds Try.pinned (OpenSpec.upto fnExactSeatingChanceSpec)

/-- 'laws.FnExactFullCycles', WHERE WHAT IT READS IS OF BULK AT MOST 1048576: true; the input reads as it did. -/
def fnExactFullCyclesUptoRow : OpenClaim := { program := "ytkjnjfgbffbiiaa", sum := "f7904a47fa49ba3eedf6c03b4e9d9783378079e45cc74840859fac84f7c9e576", func := "loop.example/g01167/laws.FnExactFullCycles", spec := "fnExactFullCycles", apart := false, narrowed := true }
def FnExactFullCyclesUptoSaid : Prop := fnExactFullCyclesUptoRow.holds Try.pinned (OpenSpec.upto fnExactFullCyclesSpec)

/-- 'laws.FnExactTrailOf', WHERE WHAT IT READS IS OF BULK AT MOST 1048576: true; the input reads as it did. -/
def fnExactTrailOfUptoRow : OpenClaim := { program := "ytkjnjfgbffbiiaa", sum := "f7904a47fa49ba3eedf6c03b4e9d9783378079e45cc74840859fac84f7c9e576", func := "loop.example/g01167/laws.FnExactTrailOf", spec := "fnExactTrailOf", apart := false, narrowed := true }
def FnExactTrailOfUptoSaid : Prop := fnExactTrailOfUptoRow.holds Try.pinned (OpenSpec.upto fnExactTrailOfSpec)

/-- 'laws.FnExactMovesOf', WHERE WHAT IT READS IS OF BULK AT MOST 1048576: true; the input reads as it did. -/
def fnExactMovesOfUptoRow : OpenClaim := { program := "ytkjnjfgbffbiiaa", sum := "f7904a47fa49ba3eedf6c03b4e9d9783378079e45cc74840859fac84f7c9e576", func := "loop.example/g01167/laws.FnExactMovesOf", spec := "fnExactMovesOf", apart := false, narrowed := true }
def FnExactMovesOfUptoSaid : Prop := fnExactMovesOfUptoRow.holds Try.pinned (OpenSpec.upto fnExactMovesOfSpec)

end Rows
end Go.Proofs.Ytkjnjfgbffbiiaa
