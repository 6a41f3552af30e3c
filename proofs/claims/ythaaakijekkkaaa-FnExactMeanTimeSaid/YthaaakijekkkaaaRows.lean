/-
  No cell of these rows narrows 'for every input' (looked for: loops, veiled, ifaces, maps, wideKeys, modest, calm, conditions, laid).
  DERIVED. THE GIVEN ROWS OF THIS SEAT. 9 by the template 'for every input the law returns true; each argument reads behind the call as it read before'; 0 by the template 'total and deterministic' (their statements: YthaaakijekkkaaaTotals.lean).
  GIVEN WITH THE SEED: the statements are not yours to turn. If you find one false, say at which input.
  Laid BY PROGRAM, IN A SANDBOX (cutbox-rows.mjs): the forced cells as the released guide's own fill.sh prints them over the translation 4e03c898bb914271… (all of the seat's roots in one cut). By AI agents, Wed Nov 11 2026. No macro, syntax, notation, axiom, sorry.
-/
import Derived.Test.YthaaakijekkkaaaChecked
import GoSem.Claim
import GoSem.ClaimJoined
import GoSem.ClaimMapViews
import Derived.JoinedTies
import Derived.KernelRfl
namespace Go.Proofs.Ythaaakijekkkaaa
/- THE CELL 'sum', in the pinned program and in every row, IS THE sha256 OF THE DUMP (.gsa) THAT YthaaakijekkkaaaProg.lean LOADS. Nothing in Lean hashes anything: it is a label: what it is worth is what the hold of that sum in a sandbox is worth. -/
noncomputable def Try.pinned : Pinned := { name := "ythaaakijekkkaaa", sum := "4e03c898bb91427149ff3cf7a33d0ebc44d3d67342f4e84ebf86e484e3807295", checked := Try.checked }
namespace Rows
def none {H : Type} : Left H := { results := [], args := [] }

/-- 'laws.FnExactCallGroups': WHATEVER THE INPUT: true; the input reads as it did. -/
def fnExactCallGroupsSpec : ChangeSpec := { name := "fnExactCallGroups", fn := fun _ => fun
  | [d1, d2] => { results := [.lit (.bool true)], args := [d1, d2] }
  | _ => none }
def fnExactCallGroupsRow : OpenClaim := { program := "ythaaakijekkkaaa", sum := "4e03c898bb91427149ff3cf7a33d0ebc44d3d67342f4e84ebf86e484e3807295", func := "loop.example/g01167/laws.FnExactCallGroups", spec := "fnExactCallGroups", apart := false }
def FnExactCallGroupsSaid : Prop := fnExactCallGroupsRow.holds Try.pinned (OpenSpec.ofChange fnExactCallGroupsSpec)

/-- ITS FALSE NEIGHBOUR: 'it returns false'. Refute it at one input. -/
def fnExactCallGroupsWrong : ChangeSpec := { name := "fnExactCallGroups", fn := fun _ => fun
  | [d1, d2] => { results := [.lit (.bool false)], args := [d1, d2] }
  | _ => none }
def FnExactCallGroupsWrongFalsely : Prop := fnExactCallGroupsRow.holds Try.pinned (OpenSpec.ofChange fnExactCallGroupsWrong)

/-- 'laws.FnExactBoardTime': WHATEVER THE INPUT: true; the input reads as it did. -/
def fnExactBoardTimeSpec : ChangeSpec := { name := "fnExactBoardTime", fn := fun _ => fun
  | [d1, d2, d3] => { results := [.lit (.bool true)], args := [d1, d2, d3] }
  | _ => none }
def fnExactBoardTimeRow : OpenClaim := { program := "ythaaakijekkkaaa", sum := "4e03c898bb91427149ff3cf7a33d0ebc44d3d67342f4e84ebf86e484e3807295", func := "loop.example/g01167/laws.FnExactBoardTime", spec := "fnExactBoardTime", apart := false }
def FnExactBoardTimeSaid : Prop := fnExactBoardTimeRow.holds Try.pinned (OpenSpec.ofChange fnExactBoardTimeSpec)

/-- ITS FALSE NEIGHBOUR: 'it returns false'. Refute it at one input. -/
def fnExactBoardTimeWrong : ChangeSpec := { name := "fnExactBoardTime", fn := fun _ => fun
  | [d1, d2, d3] => { results := [.lit (.bool false)], args := [d1, d2, d3] }
  | _ => none }
def FnExactBoardTimeWrongFalsely : Prop := fnExactBoardTimeRow.holds Try.pinned (OpenSpec.ofChange fnExactBoardTimeWrong)

/-- 'laws.FnExactEnterTimes': WHATEVER THE INPUT: true; the input reads as it did. -/
def fnExactEnterTimesSpec : ChangeSpec := { name := "fnExactEnterTimes", fn := fun _ => fun
  | [d1, d2, d3] => { results := [.lit (.bool true)], args := [d1, d2, d3] }
  | _ => none }
def fnExactEnterTimesRow : OpenClaim := { program := "ythaaakijekkkaaa", sum := "4e03c898bb91427149ff3cf7a33d0ebc44d3d67342f4e84ebf86e484e3807295", func := "loop.example/g01167/laws.FnExactEnterTimes", spec := "fnExactEnterTimes", apart := false }
def FnExactEnterTimesSaid : Prop := fnExactEnterTimesRow.holds Try.pinned (OpenSpec.ofChange fnExactEnterTimesSpec)

/-- ITS FALSE NEIGHBOUR: 'it returns false'. Refute it at one input. -/
def fnExactEnterTimesWrong : ChangeSpec := { name := "fnExactEnterTimes", fn := fun _ => fun
  | [d1, d2, d3] => { results := [.lit (.bool false)], args := [d1, d2, d3] }
  | _ => none }
def FnExactEnterTimesWrongFalsely : Prop := fnExactEnterTimesRow.holds Try.pinned (OpenSpec.ofChange fnExactEnterTimesWrong)

/-- 'laws.FnExactSitTimes': WHATEVER THE INPUT: true; the input reads as it did. -/
def fnExactSitTimesSpec : ChangeSpec := { name := "fnExactSitTimes", fn := fun _ => fun
  | [d1, d2, d3] => { results := [.lit (.bool true)], args := [d1, d2, d3] }
  | _ => none }
def fnExactSitTimesRow : OpenClaim := { program := "ythaaakijekkkaaa", sum := "4e03c898bb91427149ff3cf7a33d0ebc44d3d67342f4e84ebf86e484e3807295", func := "loop.example/g01167/laws.FnExactSitTimes", spec := "fnExactSitTimes", apart := false }
def FnExactSitTimesSaid : Prop := fnExactSitTimesRow.holds Try.pinned (OpenSpec.ofChange fnExactSitTimesSpec)

/-- ITS FALSE NEIGHBOUR: 'it returns false'. Refute it at one input. -/
def fnExactSitTimesWrong : ChangeSpec := { name := "fnExactSitTimes", fn := fun _ => fun
  | [d1, d2, d3] => { results := [.lit (.bool false)], args := [d1, d2, d3] }
  | _ => none }
def FnExactSitTimesWrongFalsely : Prop := fnExactSitTimesRow.holds Try.pinned (OpenSpec.ofChange fnExactSitTimesWrong)

/-- 'laws.FnExactWaitTimes': WHATEVER THE INPUT: true; the input reads as it did. -/
def fnExactWaitTimesSpec : ChangeSpec := { name := "fnExactWaitTimes", fn := fun _ => fun
  | [d1, d2, d3] => { results := [.lit (.bool true)], args := [d1, d2, d3] }
  | _ => none }
def fnExactWaitTimesRow : OpenClaim := { program := "ythaaakijekkkaaa", sum := "4e03c898bb91427149ff3cf7a33d0ebc44d3d67342f4e84ebf86e484e3807295", func := "loop.example/g01167/laws.FnExactWaitTimes", spec := "fnExactWaitTimes", apart := false }
def FnExactWaitTimesSaid : Prop := fnExactWaitTimesRow.holds Try.pinned (OpenSpec.ofChange fnExactWaitTimesSpec)

/-- ITS FALSE NEIGHBOUR: 'it returns false'. Refute it at one input. -/
def fnExactWaitTimesWrong : ChangeSpec := { name := "fnExactWaitTimes", fn := fun _ => fun
  | [d1, d2, d3] => { results := [.lit (.bool false)], args := [d1, d2, d3] }
  | _ => none }
def FnExactWaitTimesWrongFalsely : Prop := fnExactWaitTimesRow.holds Try.pinned (OpenSpec.ofChange fnExactWaitTimesWrong)

/-- 'laws.FnExactAisleAt': WHATEVER THE INPUT: true; the input reads as it did. -/
def fnExactAisleAtSpec : ChangeSpec := { name := "fnExactAisleAt", fn := fun _ => fun
  | [d1, d2, d3, d4] => { results := [.lit (.bool true)], args := [d1, d2, d3, d4] }
  | _ => none }
def fnExactAisleAtRow : OpenClaim := { program := "ythaaakijekkkaaa", sum := "4e03c898bb91427149ff3cf7a33d0ebc44d3d67342f4e84ebf86e484e3807295", func := "loop.example/g01167/laws.FnExactAisleAt", spec := "fnExactAisleAt", apart := false }
def FnExactAisleAtSaid : Prop := fnExactAisleAtRow.holds Try.pinned (OpenSpec.ofChange fnExactAisleAtSpec)

/-- ITS FALSE NEIGHBOUR: 'it returns false'. Refute it at one input. -/
def fnExactAisleAtWrong : ChangeSpec := { name := "fnExactAisleAt", fn := fun _ => fun
  | [d1, d2, d3, d4] => { results := [.lit (.bool false)], args := [d1, d2, d3, d4] }
  | _ => none }
def FnExactAisleAtWrongFalsely : Prop := fnExactAisleAtRow.holds Try.pinned (OpenSpec.ofChange fnExactAisleAtWrong)

/-- 'laws.FnExactSwapGain': WHATEVER THE INPUT: true; the input reads as it did. -/
def fnExactSwapGainSpec : ChangeSpec := { name := "fnExactSwapGain", fn := fun _ => fun
  | [d1, d2, d3, d4] => { results := [.lit (.bool true)], args := [d1, d2, d3, d4] }
  | _ => none }
def fnExactSwapGainRow : OpenClaim := { program := "ythaaakijekkkaaa", sum := "4e03c898bb91427149ff3cf7a33d0ebc44d3d67342f4e84ebf86e484e3807295", func := "loop.example/g01167/laws.FnExactSwapGain", spec := "fnExactSwapGain", apart := false }
def FnExactSwapGainSaid : Prop := fnExactSwapGainRow.holds Try.pinned (OpenSpec.ofChange fnExactSwapGainSpec)

/-- ITS FALSE NEIGHBOUR: 'it returns false'. Refute it at one input. -/
def fnExactSwapGainWrong : ChangeSpec := { name := "fnExactSwapGain", fn := fun _ => fun
  | [d1, d2, d3, d4] => { results := [.lit (.bool false)], args := [d1, d2, d3, d4] }
  | _ => none }
def FnExactSwapGainWrongFalsely : Prop := fnExactSwapGainRow.holds Try.pinned (OpenSpec.ofChange fnExactSwapGainWrong)

/-- 'laws.FnExactMeanTime': WHATEVER THE INPUT: true; the input reads as it did. -/
def fnExactMeanTimeSpec : ChangeSpec := { name := "fnExactMeanTime", fn := fun _ => fun
  | [d1, d2] => { results := [.lit (.bool true)], args := [d1, d2] }
  | _ => none }
def fnExactMeanTimeRow : OpenClaim := { program := "ythaaakijekkkaaa", sum := "4e03c898bb91427149ff3cf7a33d0ebc44d3d67342f4e84ebf86e484e3807295", func := "loop.example/g01167/laws.FnExactMeanTime", spec := "fnExactMeanTime", unfollowed := true, recurses := true, apart := false }
def FnExactMeanTimeSaid : Prop := fnExactMeanTimeRow.holds Try.pinned (OpenSpec.ofChange fnExactMeanTimeSpec)

/-- ITS FALSE NEIGHBOUR: 'it returns false'. Refute it at one input. -/
def fnExactMeanTimeWrong : ChangeSpec := { name := "fnExactMeanTime", fn := fun _ => fun
  | [d1, d2] => { results := [.lit (.bool false)], args := [d1, d2] }
  | _ => none }
def FnExactMeanTimeWrongFalsely : Prop := fnExactMeanTimeRow.holds Try.pinned (OpenSpec.ofChange fnExactMeanTimeWrong)

/-- 'laws.FnExactWorstTime': WHATEVER THE INPUT: true; the input reads as it did. -/
def fnExactWorstTimeSpec : ChangeSpec := { name := "fnExactWorstTime", fn := fun _ => fun
  | [d1, d2] => { results := [.lit (.bool true)], args := [d1, d2] }
  | _ => none }
def fnExactWorstTimeRow : OpenClaim := { program := "ythaaakijekkkaaa", sum := "4e03c898bb91427149ff3cf7a33d0ebc44d3d67342f4e84ebf86e484e3807295", func := "loop.example/g01167/laws.FnExactWorstTime", spec := "fnExactWorstTime", unfollowed := true, recurses := true, apart := false }
def FnExactWorstTimeSaid : Prop := fnExactWorstTimeRow.holds Try.pinned (OpenSpec.ofChange fnExactWorstTimeSpec)

/-- ITS FALSE NEIGHBOUR: 'it returns false'. Refute it at one input. -/
def fnExactWorstTimeWrong : ChangeSpec := { name := "fnExactWorstTime", fn := fun _ => fun
  | [d1, d2] => { results := [.lit (.bool false)], args := [d1, d2] }
  | _ => none }
def FnExactWorstTimeWrongFalsely : Prop := fnExactWorstTimeRow.holds Try.pinned (OpenSpec.ofChange fnExactWorstTimeWrong)

/- THE SECOND FORM. 'bulk': how many values and letters a reading holds, each counted each time it is reached (what is shared counts as often as it is met; a slice's spare places count too). A statement '..UptoSaid' is the law's where the arguments, and the package variables that the reading takes, are together of bulk at most 1048576: NARROWER than '..Said'. Prove '..Said' where nothing that the law and all that it calls make is longer than what came in: it says more and counts as full. Else prove '..UptoSaid'. A law counts once. -/
mutual
def uptoBulk {H : Type} : DataW H → Nat
  | .lit (.string bytes) => bytes.length + 1
  | .lit _ => 1
  | .nil => 1
  | .ptr d => uptoBulk d + 1
  | .slice elems spare => uptoBulkAll elems + uptoBulkAll spare + 1
  | .agg parts => uptoBulkAll parts + 1
  | .iface _ d => uptoBulk d + 1
  | .map entries => uptoBulkEntries entries + 1
  | .held _ => 1
def uptoBulkAll {H : Type} : List (DataW H) → Nat
  | [] => 0
  | d :: r => uptoBulk d + uptoBulkAll r
def uptoBulkEntries {H : Type} : List (Lit × DataW H) → Nat
  | [] => 0
  | x :: r => uptoBulkEntry x + uptoBulkEntries r
def uptoBulkEntry {H : Type} : Lit × DataW H → Nat
  | (.string bytes, d) => bytes.length + uptoBulk d + 1
  | (_, d) => uptoBulk d + 1
 end
def uptoSmall : (H : Type) → List (DataW H) → Bool := fun _ ds => decide (uptoBulkAll ds ≤ 1048576)
def OpenSpec.upto (s : _root_.Go.ChangeSpec) : _root_.Go.OpenSpec := { _root_.Go.OpenSpec.ofChange s with cond := some uptoSmall }

/-- 'laws.FnExactCallGroups', WHERE WHAT IT READS IS OF BULK AT MOST 1048576: true; the input reads as it did. -/
def fnExactCallGroupsUptoRow : OpenClaim := { program := "ythaaakijekkkaaa", sum := "4e03c898bb91427149ff3cf7a33d0ebc44d3d67342f4e84ebf86e484e3807295", func := "loop.example/g01167/laws.FnExactCallGroups", spec := "fnExactCallGroups", apart := false, narrowed := true }
def FnExactCallGroupsUptoSaid : Prop := fnExactCallGroupsUptoRow.holds Try.pinned (OpenSpec.upto fnExactCallGroupsSpec)

/-- 'laws.FnExactBoardTime', WHERE WHAT IT READS IS OF BULK AT MOST 1048576: true; the input reads as it did. -/
def fnExactBoardTimeUptoRow : OpenClaim := { program := "ythaaakijekkkaaa", sum := "4e03c898bb91427149ff3cf7a33d0ebc44d3d67342f4e84ebf86e484e3807295", func := "loop.example/g01167/laws.FnExactBoardTime", spec := "fnExactBoardTime", apart := false, narrowed := true }
def FnExactBoardTimeUptoSaid : Prop := fnExactBoardTimeUptoRow.holds Try.pinned (OpenSpec.upto fnExactBoardTimeSpec)

/-- 'laws.FnExactEnterTimes', WHERE WHAT IT READS IS OF BULK AT MOST 1048576: true; the input reads as it did. -/
def fnExactEnterTimesUptoRow : OpenClaim := { program := "ythaaakijekkkaaa", sum := "4e03c898bb91427149ff3cf7a33d0ebc44d3d67342f4e84ebf86e484e3807295", func := "loop.example/g01167/laws.FnExactEnterTimes", spec := "fnExactEnterTimes", apart := false, narrowed := true }
def FnExactEnterTimesUptoSaid : Prop := fnExactEnterTimesUptoRow.holds Try.pinned (OpenSpec.upto fnExactEnterTimesSpec)

/-- 'laws.FnExactSitTimes', WHERE WHAT IT READS IS OF BULK AT MOST 1048576: true; the input reads as it did. -/
def fnExactSitTimesUptoRow : OpenClaim := { program := "ythaaakijekkkaaa", sum := "4e03c898bb91427149ff3cf7a33d0ebc44d3d67342f4e84ebf86e484e3807295", func := "loop.example/g01167/laws.FnExactSitTimes", spec := "fnExactSitTimes", apart := false, narrowed := true }
def FnExactSitTimesUptoSaid : Prop := fnExactSitTimesUptoRow.holds Try.pinned (OpenSpec.upto fnExactSitTimesSpec)

/-- 'laws.FnExactWaitTimes', WHERE WHAT IT READS IS OF BULK AT MOST 1048576: true; the input reads as it did. -/
def fnExactWaitTimesUptoRow : OpenClaim := { program := "ythaaakijekkkaaa", sum := "4e03c898bb91427149ff3cf7a33d0ebc44d3d67342f4e84ebf86e484e3807295", func := "loop.example/g01167/laws.FnExactWaitTimes", spec := "fnExactWaitTimes", apart := false, narrowed := true }
def FnExactWaitTimesUptoSaid : Prop := fnExactWaitTimesUptoRow.holds Try.pinned (OpenSpec.upto fnExactWaitTimesSpec)

/-- 'laws.FnExactAisleAt', WHERE WHAT IT READS IS OF BULK AT MOST 1048576: true; the input reads as it did. -/
def fnExactAisleAtUptoRow : OpenClaim := { program := "ythaaakijekkkaaa", sum := "4e03c898bb91427149ff3cf7a33d0ebc44d3d67342f4e84ebf86e484e3807295", func := "loop.example/g01167/laws.FnExactAisleAt", spec := "fnExactAisleAt", apart := false, narrowed := true }
def FnExactAisleAtUptoSaid : Prop := fnExactAisleAtUptoRow.holds Try.pinned (OpenSpec.upto fnExactAisleAtSpec)

/-- 'laws.FnExactSwapGain', WHERE WHAT IT READS IS OF BULK AT MOST 1048576: true; the input reads as it did. -/
def fnExactSwapGainUptoRow : OpenClaim := { program := "ythaaakijekkkaaa", sum := "4e03c898bb91427149ff3cf7a33d0ebc44d3d67342f4e84ebf86e484e3807295", func := "loop.example/g01167/laws.FnExactSwapGain", spec := "fnExactSwapGain", apart := false, narrowed := true }
def FnExactSwapGainUptoSaid : Prop := fnExactSwapGainUptoRow.holds Try.pinned (OpenSpec.upto fnExactSwapGainSpec)

/-- 'laws.FnExactMeanTime', WHERE WHAT IT READS IS OF BULK AT MOST 1048576: true; the input reads as it did. -/
def fnExactMeanTimeUptoRow : OpenClaim := { program := "ythaaakijekkkaaa", sum := "4e03c898bb91427149ff3cf7a33d0ebc44d3d67342f4e84ebf86e484e3807295", func := "loop.example/g01167/laws.FnExactMeanTime", spec := "fnExactMeanTime", unfollowed := true, recurses := true, apart := false, narrowed := true }
def FnExactMeanTimeUptoSaid : Prop := fnExactMeanTimeUptoRow.holds Try.pinned (OpenSpec.upto fnExactMeanTimeSpec)

/-- 'laws.FnExactWorstTime', WHERE WHAT IT READS IS OF BULK AT MOST 1048576: true; the input reads as it did. -/
def fnExactWorstTimeUptoRow : OpenClaim := { program := "ythaaakijekkkaaa", sum := "4e03c898bb91427149ff3cf7a33d0ebc44d3d67342f4e84ebf86e484e3807295", func := "loop.example/g01167/laws.FnExactWorstTime", spec := "fnExactWorstTime", unfollowed := true, recurses := true, apart := false, narrowed := true }
def FnExactWorstTimeUptoSaid : Prop := fnExactWorstTimeUptoRow.holds Try.pinned (OpenSpec.upto fnExactWorstTimeSpec)

end Rows
end Go.Proofs.Ythaaakijekkkaaa
