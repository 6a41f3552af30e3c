/-
  No cell of these rows narrows 'for every input' (looked for: loops, veiled, ifaces, maps, wideKeys, modest, calm, conditions, laid).
  DERIVED. THE GIVEN ROWS OF THIS SEAT. 3 by the template 'for every input the law returns true; each argument reads behind the call as it read before'; 0 by the template 'total and deterministic' (their statements: YtohdmhhecjbbbaaTotals.lean).
  GIVEN WITH THE SEED: the statements are not yours to turn. If you find one false, say at which input.
  Laid BY PROGRAM, IN A SANDBOX (cutbox-rows.mjs): the forced cells as the released guide's own fill.sh prints them over the translation 0feb3aeb7785371e… (all of the seat's roots in one cut). By AI agents, Wed Nov 11 2026. No macro, syntax, notation, axiom, sorry.
-/
import Derived.Test.YtohdmhhecjbbbaaChecked
import GoSem.Claim
import GoSem.ClaimJoined
import GoSem.ClaimMapViews
import Derived.JoinedTies
import Derived.KernelRfl
namespace Go.Proofs.Ytohdmhhecjbbbaa
/- THE CELL 'sum', in the pinned program and in every row, IS THE sha256 OF THE DUMP (.gsa) THAT YtohdmhhecjbbbaaProg.lean LOADS. Nothing in Lean hashes anything: it is a label: what it is worth is what the hold of that sum in a sandbox is worth. -/
noncomputable def Try.pinned : Pinned := { name := "ytohdmhhecjbbbaa", sum := "0feb3aeb7785371e0fbb753122c8e4fd552d5bc27914c6d52f404fed7acc8d48", checked := Try.checked }
namespace Rows
def none {H : Type} : Left H := { results := [], args := [] }

/-- 'laws.FnExactIsPlacing': WHATEVER THE INPUT: true; the input reads as it did. -/
def fnExactIsPlacingSpec : ChangeSpec := { name := "fnExactIsPlacing", fn := fun _ => fun
  | [d1, d2, d3, d4] => { results := [.lit (.bool true)], args := [d1, d2, d3, d4] }
  | _ => none }
def fnExactIsPlacingRow : OpenClaim := { program := "ytohdmhhecjbbbaa", sum := "0feb3aeb7785371e0fbb753122c8e4fd552d5bc27914c6d52f404fed7acc8d48", func := "loop.example/g01167/laws.FnExactIsPlacing", spec := "fnExactIsPlacing", apart := false }
def FnExactIsPlacingSaid : Prop := fnExactIsPlacingRow.holds Try.pinned (OpenSpec.ofChange fnExactIsPlacingSpec)

/-- ITS FALSE NEIGHBOUR: 'it returns false'. Refute it at one input. -/
def fnExactIsPlacingWrong : ChangeSpec := { name := "fnExactIsPlacing", fn := fun _ => fun
  | [d1, d2, d3, d4] => { results := [.lit (.bool false)], args := [d1, d2, d3, d4] }
  | _ => none }
def FnExactIsPlacingWrongFalsely : Prop := fnExactIsPlacingRow.holds Try.pinned (OpenSpec.ofChange fnExactIsPlacingWrong)

/-- 'laws.FnExactCountPlacings': WHATEVER THE INPUT: true; the input reads as it did. -/
def fnExactCountPlacingsSpec : ChangeSpec := { name := "fnExactCountPlacings", fn := fun _ => fun
  | [d1, d2, d3] => { results := [.lit (.bool true)], args := [d1, d2, d3] }
  | _ => none }
def fnExactCountPlacingsRow : OpenClaim := { program := "ytohdmhhecjbbbaa", sum := "0feb3aeb7785371e0fbb753122c8e4fd552d5bc27914c6d52f404fed7acc8d48", func := "loop.example/g01167/laws.FnExactCountPlacings", spec := "fnExactCountPlacings", unfollowed := true, recurses := true, apart := false }
def FnExactCountPlacingsSaid : Prop := fnExactCountPlacingsRow.holds Try.pinned (OpenSpec.ofChange fnExactCountPlacingsSpec)

/-- ITS FALSE NEIGHBOUR: 'it returns false'. Refute it at one input. -/
def fnExactCountPlacingsWrong : ChangeSpec := { name := "fnExactCountPlacings", fn := fun _ => fun
  | [d1, d2, d3] => { results := [.lit (.bool false)], args := [d1, d2, d3] }
  | _ => none }
def FnExactCountPlacingsWrongFalsely : Prop := fnExactCountPlacingsRow.holds Try.pinned (OpenSpec.ofChange fnExactCountPlacingsWrong)

/-- 'laws.FnExactFirstPlacing': WHATEVER THE INPUT: true; the input reads as it did. -/
def fnExactFirstPlacingSpec : ChangeSpec := { name := "fnExactFirstPlacing", fn := fun _ => fun
  | [d1, d2, d3] => { results := [.lit (.bool true)], args := [d1, d2, d3] }
  | _ => none }
def fnExactFirstPlacingRow : OpenClaim := { program := "ytohdmhhecjbbbaa", sum := "0feb3aeb7785371e0fbb753122c8e4fd552d5bc27914c6d52f404fed7acc8d48", func := "loop.example/g01167/laws.FnExactFirstPlacing", spec := "fnExactFirstPlacing", unfollowed := true, recurses := true, apart := false }
def FnExactFirstPlacingSaid : Prop := fnExactFirstPlacingRow.holds Try.pinned (OpenSpec.ofChange fnExactFirstPlacingSpec)

/-- ITS FALSE NEIGHBOUR: 'it returns false'. Refute it at one input. -/
def fnExactFirstPlacingWrong : ChangeSpec := { name := "fnExactFirstPlacing", fn := fun _ => fun
  | [d1, d2, d3] => { results := [.lit (.bool false)], args := [d1, d2, d3] }
  | _ => none }
def FnExactFirstPlacingWrongFalsely : Prop := fnExactFirstPlacingRow.holds Try.pinned (OpenSpec.ofChange fnExactFirstPlacingWrong)

/- THE SECOND FORM. 'bulk': how many values and letters a reading holds, each counted each time it is reached (what is shared counts as often as it is met; a slice's spare places count too). A statement '..UptoSaid' is the law's where the arguments, and the package variables that the reading takes, are together of bulk at most 1048576: NARROWER than '..Said'. Prove '..Said' where nothing that the law and all that it calls make is longer than what came in: it says more and counts as full. Else prove '..UptoSaid'. A law counts once. -/
mutual
def uptoBulk {H : Type} : DataW H → Nat
  | .lit (.string bytes) => bytes.length + 1
  | .lit _ => 1
  | .nil => 1
  | .ptr d => uptoBulk d + 1
  | .slice elems spare => uptoBulkAll elems + uptoBulkAll spare + 1
  | .agg parts => uptoBulkAll parts + 1
  | .iface _ d => uptoBulk d + 1
  | .map entries => uptoBulkEntries entries + 1
  | .held _ => 1
def uptoBulkAll {H : Type} : List (DataW H) → Nat
  | [] => 0
  | d :: r => uptoBulk d + uptoBulkAll r
def uptoBulkEntries {H : Type} : List (Lit × DataW H) → Nat
  | [] => 0
  | x :: r => uptoBulkEntry x + uptoBulkEntries r
def uptoBulkEntry {H : Type} : Lit × DataW H → Nat
  | (.string bytes, d) => bytes.length + uptoBulk d + 1
  | (_, d) => uptoBulk d + 1
 end
def uptoSmall : (H : Type) → List (DataW H) → Bool := fun _ ds => decide (uptoBulkAll ds ≤ 1048576)
def OpenSpec.upto (s : _root_.Go.ChangeSpec) : _root_.Go.OpenSpec := { _root_.Go.OpenSpec.ofChange s with cond := some uptoSmall }

/-- 'laws.FnExactIsPlacing', WHERE WHAT IT READS IS OF BULK AT MOST 1048576: true; the input reads as it did. -/
def fnExactIsPlacingUptoRow : OpenClaim := { program := "ytohdmhhecjbbbaa", sum := "0feb3aeb7785371e0fbb753122c8e4fd552d5bc27914c6d52f404fed7acc8d48", func := "loop.example/g01167/laws.FnExactIsPlacing", spec := "fnExactIsPlacing", apart := false, narrowed := true }
def FnExactIsPlacingUptoSaid : Prop := fnExactIsPlacingUptoRow.holds Try.pinned (OpenSpec.upto fnExactIsPlacingSpec)

/-- 'laws.FnExactCountPlacings', WHERE WHAT IT READS IS OF BULK AT MOST 1048576: true; the input reads as it did. -/
def fnExactCountPlacingsUptoRow : OpenClaim := { program := "ytohdmhhecjbbbaa", sum := "0feb3aeb7785371e0fbb753122c8e4fd552d5bc27914c6d52f404fed7acc8d48", func := "loop.example/g01167/laws.FnExactCountPlacings", spec := "fnExactCountPlacings", unfollowed := true, recurses := true, apart := false, narrowed := true }
def FnExactCountPlacingsUptoSaid : Prop := fnExactCountPlacingsUptoRow.holds Try.pinned (OpenSpec.upto fnExactCountPlacingsSpec)

/-- 'laws.FnExactFirstPlacing', WHERE WHAT IT READS IS OF BULK AT MOST 1048576: true; the input reads as it did. -/
def fnExactFirstPlacingUptoRow : OpenClaim := { program := "ytohdmhhecjbbbaa", sum := "0feb3aeb7785371e0fbb753122c8e4fd552d5bc27914c6d52f404fed7acc8d48", func := "loop.example/g01167/laws.FnExactFirstPlacing", spec := "fnExactFirstPlacing", unfollowed := true, recurses := true, apart := false, narrowed := true }
def FnExactFirstPlacingUptoSaid : Prop := fnExactFirstPlacingUptoRow.holds Try.pinned (OpenSpec.upto fnExactFirstPlacingSpec)

end Rows
end Go.Proofs.Ytohdmhhecjbbbaa
