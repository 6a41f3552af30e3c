/-
  NARROWER THAN 'FOR EVERY INPUT', by the rows' own cells (each row's printed sentence says how): FnExactIsSpaced: laid · FnExactCountSpaced: laid · FnExactGreatestSpread: laid · FnExactMostSpaced: laid · FnExactFirstSpaced: laid · FnExactBestWorth: laid.
  DERIVED. THE GIVEN ROWS OF THIS SEAT. 6 by the template 'for every input the law returns true; each argument reads behind the call as it read before'; 0 by the template 'total and deterministic' (their statements: YtapbmneehaemeaaDoorTotals.lean).
  GIVEN WITH THE SEED: the statements are not yours to turn. If you find one false, say at which input.
  Laid BY PROGRAM, IN A SANDBOX (cutbox-rows.mjs): the forced cells as the released guide's own fill.sh prints them over the translation 8cd930a1cd3d73a7… (all of the seat's roots in one cut). By AI agents, Wed Nov 11 2026. No macro, syntax, notation, axiom, sorry.
-/
import Derived.Test.YtapbmneehaemeaaDoorChecked
import GoSem.Claim
import GoSem.ClaimJoined
import GoSem.ClaimMapViews
import Derived.JoinedTies
import Derived.KernelRfl
namespace Go.Proofs.YtapbmneehaemeaaDoor
/- THE CELL 'sum', in the pinned program and in every row, IS THE sha256 OF THE DUMP (.gsa) THAT YtapbmneehaemeaaDoorProg.lean LOADS. Nothing in Lean hashes anything: it is a label: what it is worth is what the hold of that sum in a sandbox is worth. -/
noncomputable def Tryd.pinned : Pinned := { name := "ytapbmneehaemeaadoor", sum := "8cd930a1cd3d73a78593c563f5bfa671665a03782716933964caf09ff0e2e132", checked := Tryd.checked }
namespace Rows
def none {H : Type} : Left H := { results := [], args := [] }

/- WHAT THE LISTED PACKAGE-LEVEL VARIABLES READ AS WHEN THE CALL BEGINS. Each datum BY PROGRAM (the guide's laid-datum.mjs) off the statement by which the dump's own 'gosem.cut.vars' lays the variable. In a bare row this is a premise. The card (YtapbmneehaemeaaDoorCards.lean) ties it to the program's text. -/
def laid_math_bits_deBruijn32tab {H : Type} : DataW H := .agg [.lit (.int .u8 0), .lit (.int .u8 1), .lit (.int .u8 28), .lit (.int .u8 2), .lit (.int .u8 29), .lit (.int .u8 14), .lit (.int .u8 24), .lit (.int .u8 3), .lit (.int .u8 30), .lit (.int .u8 22), .lit (.int .u8 20), .lit (.int .u8 15), .lit (.int .u8 25), .lit (.int .u8 17), .lit (.int .u8 4), .lit (.int .u8 8), .lit (.int .u8 31), .lit (.int .u8 27), .lit (.int .u8 13), .lit (.int .u8 23), .lit (.int .u8 21), .lit (.int .u8 19), .lit (.int .u8 16), .lit (.int .u8 7), .lit (.int .u8 26), .lit (.int .u8 12), .lit (.int .u8 18), .lit (.int .u8 6), .lit (.int .u8 11), .lit (.int .u8 5), .lit (.int .u8 10), .lit (.int .u8 9)]

/-- 'laws.FnExactIsSpaced': WHATEVER THE INPUT: true; the input reads as it did. -/
def fnExactIsSpacedSpec : ChangeSpec := { name := "fnExactIsSpaced", fn := fun _ => fun
  | [d1, d2, d3] => { results := [.lit (.bool true)], args := [d1, d2, d3] }
  | _ => none }
def fnExactIsSpacedRow : OpenClaim := { program := "ytapbmneehaemeaadoor", sum := "8cd930a1cd3d73a78593c563f5bfa671665a03782716933964caf09ff0e2e132", func := "loop.example/g01167/laws.FnExactIsSpaced", spec := "fnExactIsSpaced", named := ["math/bits.deBruijn32tab"], plainKeys := false, apart := false, laid := [("math/bits.deBruijn32tab", laid_math_bits_deBruijn32tab)] }
def FnExactIsSpacedSaid : Prop := fnExactIsSpacedRow.holds Tryd.pinned (OpenSpec.ofChange fnExactIsSpacedSpec)

/-- ITS FALSE NEIGHBOUR: 'it returns false'. Refute it at one input. -/
def fnExactIsSpacedWrong : ChangeSpec := { name := "fnExactIsSpaced", fn := fun _ => fun
  | [d1, d2, d3] => { results := [.lit (.bool false)], args := [d1, d2, d3] }
  | _ => none }
def FnExactIsSpacedWrongFalsely : Prop := fnExactIsSpacedRow.holds Tryd.pinned (OpenSpec.ofChange fnExactIsSpacedWrong)

/-- 'laws.FnExactCountSpaced': WHATEVER THE INPUT: true; the input reads as it did. -/
def fnExactCountSpacedSpec : ChangeSpec := { name := "fnExactCountSpaced", fn := fun _ => fun
  | [d1, d2, d3] => { results := [.lit (.bool true)], args := [d1, d2, d3] }
  | _ => none }
def fnExactCountSpacedRow : OpenClaim := { program := "ytapbmneehaemeaadoor", sum := "8cd930a1cd3d73a78593c563f5bfa671665a03782716933964caf09ff0e2e132", func := "loop.example/g01167/laws.FnExactCountSpaced", spec := "fnExactCountSpaced", recurses := true, named := ["math/bits.deBruijn32tab"], plainKeys := false, apart := false, laid := [("math/bits.deBruijn32tab", laid_math_bits_deBruijn32tab)] }
def FnExactCountSpacedSaid : Prop := fnExactCountSpacedRow.holds Tryd.pinned (OpenSpec.ofChange fnExactCountSpacedSpec)

/-- ITS FALSE NEIGHBOUR: 'it returns false'. Refute it at one input. -/
def fnExactCountSpacedWrong : ChangeSpec := { name := "fnExactCountSpaced", fn := fun _ => fun
  | [d1, d2, d3] => { results := [.lit (.bool false)], args := [d1, d2, d3] }
  | _ => none }
def FnExactCountSpacedWrongFalsely : Prop := fnExactCountSpacedRow.holds Tryd.pinned (OpenSpec.ofChange fnExactCountSpacedWrong)

/-- 'laws.FnExactGreatestSpread': WHATEVER THE INPUT: true; the input reads as it did. -/
def fnExactGreatestSpreadSpec : ChangeSpec := { name := "fnExactGreatestSpread", fn := fun _ => fun
  | [d1, d2] => { results := [.lit (.bool true)], args := [d1, d2] }
  | _ => none }
def fnExactGreatestSpreadRow : OpenClaim := { program := "ytapbmneehaemeaadoor", sum := "8cd930a1cd3d73a78593c563f5bfa671665a03782716933964caf09ff0e2e132", func := "loop.example/g01167/laws.FnExactGreatestSpread", spec := "fnExactGreatestSpread", recurses := true, named := ["math/bits.deBruijn32tab"], plainKeys := false, apart := false, laid := [("math/bits.deBruijn32tab", laid_math_bits_deBruijn32tab)] }
def FnExactGreatestSpreadSaid : Prop := fnExactGreatestSpreadRow.holds Tryd.pinned (OpenSpec.ofChange fnExactGreatestSpreadSpec)

/-- ITS FALSE NEIGHBOUR: 'it returns false'. Refute it at one input. -/
def fnExactGreatestSpreadWrong : ChangeSpec := { name := "fnExactGreatestSpread", fn := fun _ => fun
  | [d1, d2] => { results := [.lit (.bool false)], args := [d1, d2] }
  | _ => none }
def FnExactGreatestSpreadWrongFalsely : Prop := fnExactGreatestSpreadRow.holds Tryd.pinned (OpenSpec.ofChange fnExactGreatestSpreadWrong)

/-- 'laws.FnExactMostSpaced': WHATEVER THE INPUT: true; the input reads as it did. -/
def fnExactMostSpacedSpec : ChangeSpec := { name := "fnExactMostSpaced", fn := fun _ => fun
  | [d1, d2] => { results := [.lit (.bool true)], args := [d1, d2] }
  | _ => none }
def fnExactMostSpacedRow : OpenClaim := { program := "ytapbmneehaemeaadoor", sum := "8cd930a1cd3d73a78593c563f5bfa671665a03782716933964caf09ff0e2e132", func := "loop.example/g01167/laws.FnExactMostSpaced", spec := "fnExactMostSpaced", recurses := true, named := ["math/bits.deBruijn32tab"], plainKeys := false, apart := false, laid := [("math/bits.deBruijn32tab", laid_math_bits_deBruijn32tab)] }
def FnExactMostSpacedSaid : Prop := fnExactMostSpacedRow.holds Tryd.pinned (OpenSpec.ofChange fnExactMostSpacedSpec)

/-- ITS FALSE NEIGHBOUR: 'it returns false'. Refute it at one input. -/
def fnExactMostSpacedWrong : ChangeSpec := { name := "fnExactMostSpaced", fn := fun _ => fun
  | [d1, d2] => { results := [.lit (.bool false)], args := [d1, d2] }
  | _ => none }
def FnExactMostSpacedWrongFalsely : Prop := fnExactMostSpacedRow.holds Tryd.pinned (OpenSpec.ofChange fnExactMostSpacedWrong)

/-- 'laws.FnExactFirstSpaced': WHATEVER THE INPUT: true; the input reads as it did. -/
def fnExactFirstSpacedSpec : ChangeSpec := { name := "fnExactFirstSpaced", fn := fun _ => fun
  | [d1, d2, d3] => { results := [.lit (.bool true)], args := [d1, d2, d3] }
  | _ => none }
def fnExactFirstSpacedRow : OpenClaim := { program := "ytapbmneehaemeaadoor", sum := "8cd930a1cd3d73a78593c563f5bfa671665a03782716933964caf09ff0e2e132", func := "loop.example/g01167/laws.FnExactFirstSpaced", spec := "fnExactFirstSpaced", recurses := true, named := ["math/bits.deBruijn32tab"], plainKeys := false, apart := false, laid := [("math/bits.deBruijn32tab", laid_math_bits_deBruijn32tab)] }
def FnExactFirstSpacedSaid : Prop := fnExactFirstSpacedRow.holds Tryd.pinned (OpenSpec.ofChange fnExactFirstSpacedSpec)

/-- ITS FALSE NEIGHBOUR: 'it returns false'. Refute it at one input. -/
def fnExactFirstSpacedWrong : ChangeSpec := { name := "fnExactFirstSpaced", fn := fun _ => fun
  | [d1, d2, d3] => { results := [.lit (.bool false)], args := [d1, d2, d3] }
  | _ => none }
def FnExactFirstSpacedWrongFalsely : Prop := fnExactFirstSpacedRow.holds Tryd.pinned (OpenSpec.ofChange fnExactFirstSpacedWrong)

/-- 'laws.FnExactBestWorth': WHATEVER THE INPUT: true; the input reads as it did. -/
def fnExactBestWorthSpec : ChangeSpec := { name := "fnExactBestWorth", fn := fun _ => fun
  | [d1, d2, d3] => { results := [.lit (.bool true)], args := [d1, d2, d3] }
  | _ => none }
def fnExactBestWorthRow : OpenClaim := { program := "ytapbmneehaemeaadoor", sum := "8cd930a1cd3d73a78593c563f5bfa671665a03782716933964caf09ff0e2e132", func := "loop.example/g01167/laws.FnExactBestWorth", spec := "fnExactBestWorth", recurses := true, named := ["math/bits.deBruijn32tab"], plainKeys := false, apart := false, laid := [("math/bits.deBruijn32tab", laid_math_bits_deBruijn32tab)] }
def FnExactBestWorthSaid : Prop := fnExactBestWorthRow.holds Tryd.pinned (OpenSpec.ofChange fnExactBestWorthSpec)

/-- ITS FALSE NEIGHBOUR: 'it returns false'. Refute it at one input. -/
def fnExactBestWorthWrong : ChangeSpec := { name := "fnExactBestWorth", fn := fun _ => fun
  | [d1, d2, d3] => { results := [.lit (.bool false)], args := [d1, d2, d3] }
  | _ => none }
def FnExactBestWorthWrongFalsely : Prop := fnExactBestWorthRow.holds Tryd.pinned (OpenSpec.ofChange fnExactBestWorthWrong)

/- THE SECOND FORM. 'bulk': how many values and letters a reading holds, each counted each time it is reached (what is shared counts as often as it is met; a slice's spare places count too). A statement '..UptoSaid' is the law's where the arguments, and the package variables that the reading takes, are together of bulk at most 1048576: NARROWER than '..Said'. Prove '..Said' where nothing that the law and all that it calls make is longer than what came in: it says more and counts as full. Else prove '..UptoSaid'. A law counts once. -/
mutual
def uptoBulk {H : Type} : DataW H → Nat
  | .lit (.string bytes) => bytes.length + 1
  | .lit _ => 1
  | .nil => 1
  | .ptr d => uptoBulk d + 1
  | .slice elems spare => uptoBulkAll elems + uptoBulkAll spare + 1
  | .agg parts => uptoBulkAll parts + 1
  | .iface _ d => uptoBulk d + 1
  | .map entries => uptoBulkEntries entries + 1
  | .held _ => 1
def uptoBulkAll {H : Type} : List (DataW H) → Nat
  | [] => 0
  | d :: r => uptoBulk d + uptoBulkAll r
def uptoBulkEntries {H : Type} : List (Lit × DataW H) → Nat
  | [] => 0
  | x :: r => uptoBulkEntry x + uptoBulkEntries r
def uptoBulkEntry {H : Type} : Lit × DataW H → Nat
  | (.string bytes, d) => bytes.length + uptoBulk d + 1
  | (_, d) => uptoBulk d + 1
 end
def uptoSmall : (H : Type) → List (DataW H) → Bool := fun _ ds => decide (uptoBulkAll ds ≤ 1048576)
def OpenSpec.upto (s : _root_.Go.ChangeSpec) : _root_.Go.OpenSpec := { _root_.Go.OpenSpec.ofChange s with cond := some uptoSmall }

/-- 'laws.FnExactIsSpaced', WHERE WHAT IT READS IS OF BULK AT MOST 1048576: true; the input reads as it did. -/
def fnExactIsSpacedUptoRow : OpenClaim := { program := "ytapbmneehaemeaadoor", sum := "8cd930a1cd3d73a78593c563f5bfa671665a03782716933964caf09ff0e2e132", func := "loop.example/g01167/laws.FnExactIsSpaced", spec := "fnExactIsSpaced", named := ["math/bits.deBruijn32tab"], plainKeys := false, apart := false, laid := [("math/bits.deBruijn32tab", laid_math_bits_deBruijn32tab)], narrowed := true }
def FnExactIsSpacedUptoSaid : Prop := fnExactIsSpacedUptoRow.holds Tryd.pinned (OpenSpec.upto fnExactIsSpacedSpec)

/-- 'laws.FnExactCountSpaced', WHERE WHAT IT READS IS OF BULK AT MOST 1048576: true; the input reads as it did. -/
def fnExactCountSpacedUptoRow : OpenClaim := { program := "ytapbmneehaemeaadoor", sum := "8cd930a1cd3d73a78593c563f5bfa671665a03782716933964caf09ff0e2e132", func := "loop.example/g01167/laws.FnExactCountSpaced", spec := "fnExactCountSpaced", recurses := true, named := ["math/bits.deBruijn32tab"], plainKeys := false, apart := false, laid := [("math/bits.deBruijn32tab", laid_math_bits_deBruijn32tab)], narrowed := true }
def FnExactCountSpacedUptoSaid : Prop := fnExactCountSpacedUptoRow.holds Tryd.pinned (OpenSpec.upto fnExactCountSpacedSpec)

/-- 'laws.FnExactGreatestSpread', WHERE WHAT IT READS IS OF BULK AT MOST 1048576: true; the input reads as it did. -/
def fnExactGreatestSpreadUptoRow : OpenClaim := { program := "ytapbmneehaemeaadoor", sum := "8cd930a1cd3d73a78593c563f5bfa671665a03782716933964caf09ff0e2e132", func := "loop.example/g01167/laws.FnExactGreatestSpread", spec := "fnExactGreatestSpread", recurses := true, named := ["math/bits.deBruijn32tab"], plainKeys := false, apart := false, laid := [("math/bits.deBruijn32tab", laid_math_bits_deBruijn32tab)], narrowed := true }
def FnExactGreatestSpreadUptoSaid : Prop := fnExactGreatestSpreadUptoRow.holds Tryd.pinned (OpenSpec.upto fnExactGreatestSpreadSpec)

/-- 'laws.FnExactMostSpaced', WHERE WHAT IT READS IS OF BULK AT MOST 1048576: true; the input reads as it did. -/
def fnExactMostSpacedUptoRow : OpenClaim := { program := "ytapbmneehaemeaadoor", sum := "8cd930a1cd3d73a78593c563f5bfa671665a03782716933964caf09ff0e2e132", func := "loop.example/g01167/laws.FnExactMostSpaced", spec := "fnExactMostSpaced", recurses := true, named := ["math/bits.deBruijn32tab"], plainKeys := false, apart := false, laid := [("math/bits.deBruijn32tab", laid_math_bits_deBruijn32tab)], narrowed := true }
def FnExactMostSpacedUptoSaid : Prop := fnExactMostSpacedUptoRow.holds Tryd.pinned (OpenSpec.upto fnExactMostSpacedSpec)

/-- 'laws.FnExactFirstSpaced', WHERE WHAT IT READS IS OF BULK AT MOST 1048576: true; the input reads as it did. -/
def fnExactFirstSpacedUptoRow : OpenClaim := { program := "ytapbmneehaemeaadoor", sum := "8cd930a1cd3d73a78593c563f5bfa671665a03782716933964caf09ff0e2e132", func := "loop.example/g01167/laws.FnExactFirstSpaced", spec := "fnExactFirstSpaced", recurses := true, named := ["math/bits.deBruijn32tab"], plainKeys := false, apart := false, laid := [("math/bits.deBruijn32tab", laid_math_bits_deBruijn32tab)], narrowed := true }
def FnExactFirstSpacedUptoSaid : Prop := fnExactFirstSpacedUptoRow.holds Tryd.pinned (OpenSpec.upto fnExactFirstSpacedSpec)

/-- 'laws.FnExactBestWorth', WHERE WHAT IT READS IS OF BULK AT MOST 1048576: true; the input reads as it did. -/
def fnExactBestWorthUptoRow : OpenClaim := { program := "ytapbmneehaemeaadoor", sum := "8cd930a1cd3d73a78593c563f5bfa671665a03782716933964caf09ff0e2e132", func := "loop.example/g01167/laws.FnExactBestWorth", spec := "fnExactBestWorth", recurses := true, named := ["math/bits.deBruijn32tab"], plainKeys := false, apart := false, laid := [("math/bits.deBruijn32tab", laid_math_bits_deBruijn32tab)], narrowed := true }
def FnExactBestWorthUptoSaid : Prop := fnExactBestWorthUptoRow.holds Tryd.pinned (OpenSpec.upto fnExactBestWorthSpec)

end Rows
end Go.Proofs.YtapbmneehaemeaaDoor
