/-
  NARROWER THAN 'FOR EVERY INPUT', by the rows' own cells (each row's printed sentence says how): FnExactBestStart: laid · FnExactWorstStart: laid · FnExactPoliteTies: laid · FnExactAfterPolite: laid · FnExactPoliteSpread: laid.
  DERIVED. THE GIVEN ROWS OF THIS SEAT. 5 by the template 'for every input the law returns true; each argument reads behind the call as it read before'; 0 by the template 'total and deterministic' (their statements: YtnchmnkljneedaaDoorTotals.lean).
  GIVEN WITH THE SEED: the statements are not yours to turn. If you find one false, say at which input.
  Laid BY PROGRAM, IN A SANDBOX (cutbox-rows.mjs): the forced cells as the released guide's own fill.sh prints them over the translation 861abe463f095181… (all of the seat's roots in one cut). By AI agents, Wed Nov 11 2026. No macro, syntax, notation, axiom, sorry.
-/
import Derived.Test.YtnchmnkljneedaaDoorChecked
import GoSem.Claim
import GoSem.ClaimJoined
import GoSem.ClaimMapViews
import Derived.JoinedTies
import Derived.KernelRfl
namespace Go.Proofs.YtnchmnkljneedaaDoor
/- THE CELL 'sum', in the pinned program and in every row, IS THE sha256 OF THE DUMP (.gsa) THAT YtnchmnkljneedaaDoorProg.lean LOADS. Nothing in Lean hashes anything: it is a label: what it is worth is what the hold of that sum in a sandbox is worth. -/
noncomputable def Tryd.pinned : Pinned := { name := "ytnchmnkljneedaadoor", sum := "861abe463f095181f3b77a04182104132add9415dbee527faa35eaca29fa6459", checked := Tryd.checked }
namespace Rows
def none {H : Type} : Left H := { results := [], args := [] }

/- WHAT THE LISTED PACKAGE-LEVEL VARIABLES READ AS WHEN THE CALL BEGINS. Each datum BY PROGRAM (the guide's laid-datum.mjs) off the statement by which the dump's own 'gosem.cut.vars' lays the variable. In a bare row this is a premise. The card (YtnchmnkljneedaaDoorCards.lean) ties it to the program's text. -/
def laid_math_bits_deBruijn32tab {H : Type} : DataW H := .agg [.lit (.int .u8 0), .lit (.int .u8 1), .lit (.int .u8 28), .lit (.int .u8 2), .lit (.int .u8 29), .lit (.int .u8 14), .lit (.int .u8 24), .lit (.int .u8 3), .lit (.int .u8 30), .lit (.int .u8 22), .lit (.int .u8 20), .lit (.int .u8 15), .lit (.int .u8 25), .lit (.int .u8 17), .lit (.int .u8 4), .lit (.int .u8 8), .lit (.int .u8 31), .lit (.int .u8 27), .lit (.int .u8 13), .lit (.int .u8 23), .lit (.int .u8 21), .lit (.int .u8 19), .lit (.int .u8 16), .lit (.int .u8 7), .lit (.int .u8 26), .lit (.int .u8 12), .lit (.int .u8 18), .lit (.int .u8 6), .lit (.int .u8 11), .lit (.int .u8 5), .lit (.int .u8 10), .lit (.int .u8 9)]

/-- 'laws.FnExactBestStart': WHATEVER THE INPUT: true; the input reads as it did. -/
def fnExactBestStartSpec : ChangeSpec := { name := "fnExactBestStart", fn := fun _ => fun
  | [d1, d2] => { results := [.lit (.bool true)], args := [d1, d2] }
  | _ => none }
def fnExactBestStartRow : OpenClaim := { program := "ytnchmnkljneedaadoor", sum := "861abe463f095181f3b77a04182104132add9415dbee527faa35eaca29fa6459", func := "loop.example/g01167/laws.FnExactBestStart", spec := "fnExactBestStart", unfollowed := true, recurses := true, named := ["math/bits.deBruijn32tab"], apart := false, laid := [("math/bits.deBruijn32tab", laid_math_bits_deBruijn32tab)] }
def FnExactBestStartSaid : Prop := fnExactBestStartRow.holds Tryd.pinned (OpenSpec.ofChange fnExactBestStartSpec)

/-- ITS FALSE NEIGHBOUR: 'it returns false'. Refute it at one input. -/
def fnExactBestStartWrong : ChangeSpec := { name := "fnExactBestStart", fn := fun _ => fun
  | [d1, d2] => { results := [.lit (.bool false)], args := [d1, d2] }
  | _ => none }
def FnExactBestStartWrongFalsely : Prop := fnExactBestStartRow.holds Tryd.pinned (OpenSpec.ofChange fnExactBestStartWrong)

/-- 'laws.FnExactWorstStart': WHATEVER THE INPUT: true; the input reads as it did. -/
def fnExactWorstStartSpec : ChangeSpec := { name := "fnExactWorstStart", fn := fun _ => fun
  | [d1, d2] => { results := [.lit (.bool true)], args := [d1, d2] }
  | _ => none }
def fnExactWorstStartRow : OpenClaim := { program := "ytnchmnkljneedaadoor", sum := "861abe463f095181f3b77a04182104132add9415dbee527faa35eaca29fa6459", func := "loop.example/g01167/laws.FnExactWorstStart", spec := "fnExactWorstStart", unfollowed := true, recurses := true, named := ["math/bits.deBruijn32tab"], apart := false, laid := [("math/bits.deBruijn32tab", laid_math_bits_deBruijn32tab)] }
def FnExactWorstStartSaid : Prop := fnExactWorstStartRow.holds Tryd.pinned (OpenSpec.ofChange fnExactWorstStartSpec)

/-- ITS FALSE NEIGHBOUR: 'it returns false'. Refute it at one input. -/
def fnExactWorstStartWrong : ChangeSpec := { name := "fnExactWorstStart", fn := fun _ => fun
  | [d1, d2] => { results := [.lit (.bool false)], args := [d1, d2] }
  | _ => none }
def FnExactWorstStartWrongFalsely : Prop := fnExactWorstStartRow.holds Tryd.pinned (OpenSpec.ofChange fnExactWorstStartWrong)

/-- 'laws.FnExactPoliteTies': WHATEVER THE INPUT: true; the input reads as it did. -/
def fnExactPoliteTiesSpec : ChangeSpec := { name := "fnExactPoliteTies", fn := fun _ => fun
  | [d] => { results := [.lit (.bool true)], args := [d] }
  | _ => none }
def fnExactPoliteTiesRow : OpenClaim := { program := "ytnchmnkljneedaadoor", sum := "861abe463f095181f3b77a04182104132add9415dbee527faa35eaca29fa6459", func := "loop.example/g01167/laws.FnExactPoliteTies", spec := "fnExactPoliteTies", unfollowed := true, recurses := true, named := ["math/bits.deBruijn32tab"], apart := false, laid := [("math/bits.deBruijn32tab", laid_math_bits_deBruijn32tab)] }
def FnExactPoliteTiesSaid : Prop := fnExactPoliteTiesRow.holds Tryd.pinned (OpenSpec.ofChange fnExactPoliteTiesSpec)

/-- ITS FALSE NEIGHBOUR: 'it returns false'. Refute it at one input. -/
def fnExactPoliteTiesWrong : ChangeSpec := { name := "fnExactPoliteTies", fn := fun _ => fun
  | [d] => { results := [.lit (.bool false)], args := [d] }
  | _ => none }
def FnExactPoliteTiesWrongFalsely : Prop := fnExactPoliteTiesRow.holds Tryd.pinned (OpenSpec.ofChange fnExactPoliteTiesWrong)

/-- 'laws.FnExactAfterPolite': WHATEVER THE INPUT: true; the input reads as it did. -/
def fnExactAfterPoliteSpec : ChangeSpec := { name := "fnExactAfterPolite", fn := fun _ => fun
  | [d1, d2] => { results := [.lit (.bool true)], args := [d1, d2] }
  | _ => none }
def fnExactAfterPoliteRow : OpenClaim := { program := "ytnchmnkljneedaadoor", sum := "861abe463f095181f3b77a04182104132add9415dbee527faa35eaca29fa6459", func := "loop.example/g01167/laws.FnExactAfterPolite", spec := "fnExactAfterPolite", named := ["math/bits.deBruijn32tab"], apart := false, laid := [("math/bits.deBruijn32tab", laid_math_bits_deBruijn32tab)] }
def FnExactAfterPoliteSaid : Prop := fnExactAfterPoliteRow.holds Tryd.pinned (OpenSpec.ofChange fnExactAfterPoliteSpec)

/-- ITS FALSE NEIGHBOUR: 'it returns false'. Refute it at one input. -/
def fnExactAfterPoliteWrong : ChangeSpec := { name := "fnExactAfterPolite", fn := fun _ => fun
  | [d1, d2] => { results := [.lit (.bool false)], args := [d1, d2] }
  | _ => none }
def FnExactAfterPoliteWrongFalsely : Prop := fnExactAfterPoliteRow.holds Tryd.pinned (OpenSpec.ofChange fnExactAfterPoliteWrong)

/-- 'laws.FnExactPoliteSpread': WHATEVER THE INPUT: true; the input reads as it did. -/
def fnExactPoliteSpreadSpec : ChangeSpec := { name := "fnExactPoliteSpread", fn := fun _ => fun
  | [d1, d2] => { results := [.lit (.bool true)], args := [d1, d2] }
  | _ => none }
def fnExactPoliteSpreadRow : OpenClaim := { program := "ytnchmnkljneedaadoor", sum := "861abe463f095181f3b77a04182104132add9415dbee527faa35eaca29fa6459", func := "loop.example/g01167/laws.FnExactPoliteSpread", spec := "fnExactPoliteSpread", named := ["math/bits.deBruijn32tab"], apart := false, laid := [("math/bits.deBruijn32tab", laid_math_bits_deBruijn32tab)] }
def FnExactPoliteSpreadSaid : Prop := fnExactPoliteSpreadRow.holds Tryd.pinned (OpenSpec.ofChange fnExactPoliteSpreadSpec)

/-- ITS FALSE NEIGHBOUR: 'it returns false'. Refute it at one input. -/
def fnExactPoliteSpreadWrong : ChangeSpec := { name := "fnExactPoliteSpread", fn := fun _ => fun
  | [d1, d2] => { results := [.lit (.bool false)], args := [d1, d2] }
  | _ => none }
def FnExactPoliteSpreadWrongFalsely : Prop := fnExactPoliteSpreadRow.holds Tryd.pinned (OpenSpec.ofChange fnExactPoliteSpreadWrong)

/- THE SECOND FORM. 'bulk': how many values and letters a reading holds, each counted each time it is reached (what is shared counts as often as it is met; a slice's spare places count too). A statement '..UptoSaid' is the law's where the arguments, and the package variables that the reading takes, are together of bulk at most 1048576: NARROWER than '..Said'. Prove '..Said' where nothing that the law and all that it calls make is longer than what came in: it says more and counts as full. Else prove '..UptoSaid'. A law counts once. -/
mutual
def uptoBulk {H : Type} : DataW H → Nat
  | .lit (.string bytes) => bytes.length + 1
  | .lit _ => 1
  | .nil => 1
  | .ptr d => uptoBulk d + 1
  | .slice elems spare => uptoBulkAll elems + uptoBulkAll spare + 1
  | .agg parts => uptoBulkAll parts + 1
  | .iface _ d => uptoBulk d + 1
  | .map entries => uptoBulkEntries entries + 1
  | .held _ => 1
def uptoBulkAll {H : Type} : List (DataW H) → Nat
  | [] => 0
  | d :: r => uptoBulk d + uptoBulkAll r
def uptoBulkEntries {H : Type} : List (Lit × DataW H) → Nat
  | [] => 0
  | x :: r => uptoBulkEntry x + uptoBulkEntries r
def uptoBulkEntry {H : Type} : Lit × DataW H → Nat
  | (.string bytes, d) => bytes.length + uptoBulk d + 1
  | (_, d) => uptoBulk d + 1
 end
def uptoSmall : (H : Type) → List (DataW H) → Bool := fun _ ds => decide (uptoBulkAll ds ≤ 1048576)
def OpenSpec.upto (s : _root_.Go.ChangeSpec) : _root_.Go.OpenSpec := { _root_.Go.OpenSpec.ofChange s with cond := some uptoSmall }

/-- 'laws.FnExactBestStart', WHERE WHAT IT READS IS OF BULK AT MOST 1048576: true; the input reads as it did. -/
def fnExactBestStartUptoRow : OpenClaim := { program := "ytnchmnkljneedaadoor", sum := "861abe463f095181f3b77a04182104132add9415dbee527faa35eaca29fa6459", func := "loop.example/g01167/laws.FnExactBestStart", spec := "fnExactBestStart", unfollowed := true, recurses := true, named := ["math/bits.deBruijn32tab"], apart := false, laid := [("math/bits.deBruijn32tab", laid_math_bits_deBruijn32tab)], narrowed := true }
def FnExactBestStartUptoSaid : Prop := fnExactBestStartUptoRow.holds Tryd.pinned (OpenSpec.upto fnExactBestStartSpec)

/-- 'laws.FnExactWorstStart', WHERE WHAT IT READS IS OF BULK AT MOST 1048576: true; the input reads as it did. -/
def fnExactWorstStartUptoRow : OpenClaim := { program := "ytnchmnkljneedaadoor", sum := "861abe463f095181f3b77a04182104132add9415dbee527faa35eaca29fa6459", func := "loop.example/g01167/laws.FnExactWorstStart", spec := "fnExactWorstStart", unfollowed := true, recurses := true, named := ["math/bits.deBruijn32tab"], apart := false, laid := [("math/bits.deBruijn32tab", laid_math_bits_deBruijn32tab)], narrowed := true }
def FnExactWorstStartUptoSaid : Prop := fnExactWorstStartUptoRow.holds Tryd.pinned (OpenSpec.upto fnExactWorstStartSpec)

/-- 'laws.FnExactPoliteTies', WHERE WHAT IT READS IS OF BULK AT MOST 1048576: true; the input reads as it did. -/
def fnExactPoliteTiesUptoRow : OpenClaim := { program := "ytnchmnkljneedaadoor", sum := "861abe463f095181f3b77a04182104132add9415dbee527faa35eaca29fa6459", func := "loop.example/g01167/laws.FnExactPoliteTies", spec := "fnExactPoliteTies", unfollowed := true, recurses := true, named := ["math/bits.deBruijn32tab"], apart := false, laid := [("math/bits.deBruijn32tab", laid_math_bits_deBruijn32tab)], narrowed := true }
def FnExactPoliteTiesUptoSaid : Prop := fnExactPoliteTiesUptoRow.holds Tryd.pinned (OpenSpec.upto fnExactPoliteTiesSpec)

/-- 'laws.FnExactAfterPolite', WHERE WHAT IT READS IS OF BULK AT MOST 1048576: true; the input reads as it did. -/
def fnExactAfterPoliteUptoRow : OpenClaim := { program := "ytnchmnkljneedaadoor", sum := "861abe463f095181f3b77a04182104132add9415dbee527faa35eaca29fa6459", func := "loop.example/g01167/laws.FnExactAfterPolite", spec := "fnExactAfterPolite", named := ["math/bits.deBruijn32tab"], apart := false, laid := [("math/bits.deBruijn32tab", laid_math_bits_deBruijn32tab)], narrowed := true }
def FnExactAfterPoliteUptoSaid : Prop := fnExactAfterPoliteUptoRow.holds Tryd.pinned (OpenSpec.upto fnExactAfterPoliteSpec)

/-- 'laws.FnExactPoliteSpread', WHERE WHAT IT READS IS OF BULK AT MOST 1048576: true; the input reads as it did. -/
def fnExactPoliteSpreadUptoRow : OpenClaim := { program := "ytnchmnkljneedaadoor", sum := "861abe463f095181f3b77a04182104132add9415dbee527faa35eaca29fa6459", func := "loop.example/g01167/laws.FnExactPoliteSpread", spec := "fnExactPoliteSpread", named := ["math/bits.deBruijn32tab"], apart := false, laid := [("math/bits.deBruijn32tab", laid_math_bits_deBruijn32tab)], narrowed := true }
def FnExactPoliteSpreadUptoSaid : Prop := fnExactPoliteSpreadUptoRow.holds Tryd.pinned (OpenSpec.upto fnExactPoliteSpreadSpec)

end Rows
end Go.Proofs.YtnchmnkljneedaaDoor
