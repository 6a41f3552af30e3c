/-
  No cell of these rows narrows 'for every input' (looked for: loops, veiled, ifaces, maps, wideKeys, modest, calm, conditions, laid).
  DERIVED. THE GIVEN ROWS OF THIS SEAT. 6 by the template 'for every input the law returns true; each argument reads behind the call as it read before'; 0 by the template 'total and deterministic' (their statements: YtfnkcnggbdecjaaTotals.lean).
  GIVEN WITH THE SEED: the statements are not yours to turn. If you find one false, say at which input.
  Laid BY PROGRAM, IN A SANDBOX (cutbox-rows.mjs): the forced cells as the released guide's own fill.sh prints them over the translation 0c4e4f7814ab2b2d… (all of the seat's roots in one cut). By AI agents, Wed Nov 11 2026. No macro, syntax, notation, axiom, sorry.
-/
import Derived.Test.YtfnkcnggbdecjaaChecked
import GoSem.Claim
import GoSem.ClaimJoined
import GoSem.ClaimMapViews
import Derived.JoinedTies
import Derived.KernelRfl
namespace Go.Proofs.Ytfnkcnggbdecjaa
/- THE CELL 'sum', in the pinned program and in every row, IS THE sha256 OF THE DUMP (.gsa) THAT YtfnkcnggbdecjaaProg.lean LOADS. Nothing in Lean hashes anything: it is a label: what it is worth is what the hold of that sum in a sandbox is worth. -/
noncomputable def Try.pinned : Pinned := { name := "ytfnkcnggbdecjaa", sum := "0c4e4f7814ab2b2d6eacc90f427149d488d889f495d1be1f24c1dee1fd66f7fb", checked := Try.checked }
namespace Rows
def none {H : Type} : Left H := { results := [], args := [] }

/-- 'laws.FnExactMenageCount': WHATEVER THE INPUT: true; the input reads as it did. -/
def fnExactMenageCountSpec : ChangeSpec := { name := "fnExactMenageCount", fn := fun _ => fun
  | [d] => { results := [.lit (.bool true)], args := [d] }
  | _ => none }
def fnExactMenageCountRow : OpenClaim := { program := "ytfnkcnggbdecjaa", sum := "0c4e4f7814ab2b2d6eacc90f427149d488d889f495d1be1f24c1dee1fd66f7fb", func := "loop.example/g01167/laws.FnExactMenageCount", spec := "fnExactMenageCount", unfollowed := true, recurses := true, apart := false }
def FnExactMenageCountSaid : Prop := fnExactMenageCountRow.holds Try.pinned (OpenSpec.ofChange fnExactMenageCountSpec)

/-- ITS FALSE NEIGHBOUR: 'it returns false'. Refute it at one input. -/
def fnExactMenageCountWrong : ChangeSpec := { name := "fnExactMenageCount", fn := fun _ => fun
  | [d] => { results := [.lit (.bool false)], args := [d] }
  | _ => none }
def FnExactMenageCountWrongFalsely : Prop := fnExactMenageCountRow.holds Try.pinned (OpenSpec.ofChange fnExactMenageCountWrong)

/-- 'laws.FnExactIsEntering': WHATEVER THE INPUT: true; the input reads as it did. -/
def fnExactIsEnteringSpec : ChangeSpec := { name := "fnExactIsEntering", fn := fun _ => fun
  | [d1, d2] => { results := [.lit (.bool true)], args := [d1, d2] }
  | _ => none }
def fnExactIsEnteringRow : OpenClaim := { program := "ytfnkcnggbdecjaa", sum := "0c4e4f7814ab2b2d6eacc90f427149d488d889f495d1be1f24c1dee1fd66f7fb", func := "loop.example/g01167/laws.FnExactIsEntering", spec := "fnExactIsEntering", apart := false }
def FnExactIsEnteringSaid : Prop := fnExactIsEnteringRow.holds Try.pinned (OpenSpec.ofChange fnExactIsEnteringSpec)

/-- ITS FALSE NEIGHBOUR: 'it returns false'. Refute it at one input. -/
def fnExactIsEnteringWrong : ChangeSpec := { name := "fnExactIsEntering", fn := fun _ => fun
  | [d1, d2] => { results := [.lit (.bool false)], args := [d1, d2] }
  | _ => none }
def FnExactIsEnteringWrongFalsely : Prop := fnExactIsEnteringRow.holds Try.pinned (OpenSpec.ofChange fnExactIsEnteringWrong)

/-- 'laws.FnExactIsParty': WHATEVER THE INPUT: true; the input reads as it did. -/
def fnExactIsPartySpec : ChangeSpec := { name := "fnExactIsParty", fn := fun _ => fun
  | [d1, d2, d3] => { results := [.lit (.bool true)], args := [d1, d2, d3] }
  | _ => none }
def fnExactIsPartyRow : OpenClaim := { program := "ytfnkcnggbdecjaa", sum := "0c4e4f7814ab2b2d6eacc90f427149d488d889f495d1be1f24c1dee1fd66f7fb", func := "loop.example/g01167/laws.FnExactIsParty", spec := "fnExactIsParty", apart := false }
def FnExactIsPartySaid : Prop := fnExactIsPartyRow.holds Try.pinned (OpenSpec.ofChange fnExactIsPartySpec)

/-- ITS FALSE NEIGHBOUR: 'it returns false'. Refute it at one input. -/
def fnExactIsPartyWrong : ChangeSpec := { name := "fnExactIsParty", fn := fun _ => fun
  | [d1, d2, d3] => { results := [.lit (.bool false)], args := [d1, d2, d3] }
  | _ => none }
def FnExactIsPartyWrongFalsely : Prop := fnExactIsPartyRow.holds Try.pinned (OpenSpec.ofChange fnExactIsPartyWrong)

/-- 'laws.FnExactFamilyCount': WHATEVER THE INPUT: true; the input reads as it did. -/
def fnExactFamilyCountSpec : ChangeSpec := { name := "fnExactFamilyCount", fn := fun _ => fun
  | [d1, d2] => { results := [.lit (.bool true)], args := [d1, d2] }
  | _ => none }
def fnExactFamilyCountRow : OpenClaim := { program := "ytfnkcnggbdecjaa", sum := "0c4e4f7814ab2b2d6eacc90f427149d488d889f495d1be1f24c1dee1fd66f7fb", func := "loop.example/g01167/laws.FnExactFamilyCount", spec := "fnExactFamilyCount", apart := false }
def FnExactFamilyCountSaid : Prop := fnExactFamilyCountRow.holds Try.pinned (OpenSpec.ofChange fnExactFamilyCountSpec)

/-- ITS FALSE NEIGHBOUR: 'it returns false'. Refute it at one input. -/
def fnExactFamilyCountWrong : ChangeSpec := { name := "fnExactFamilyCount", fn := fun _ => fun
  | [d1, d2] => { results := [.lit (.bool false)], args := [d1, d2] }
  | _ => none }
def FnExactFamilyCountWrongFalsely : Prop := fnExactFamilyCountRow.holds Try.pinned (OpenSpec.ofChange fnExactFamilyCountWrong)

/-- 'laws.FnExactIsRule': WHATEVER THE INPUT: true; the input reads as it did. -/
def fnExactIsRuleSpec : ChangeSpec := { name := "fnExactIsRule", fn := fun _ => fun
  | [d] => { results := [.lit (.bool true)], args := [d] }
  | _ => none }
def fnExactIsRuleRow : OpenClaim := { program := "ytfnkcnggbdecjaa", sum := "0c4e4f7814ab2b2d6eacc90f427149d488d889f495d1be1f24c1dee1fd66f7fb", func := "loop.example/g01167/laws.FnExactIsRule", spec := "fnExactIsRule", apart := false }
def FnExactIsRuleSaid : Prop := fnExactIsRuleRow.holds Try.pinned (OpenSpec.ofChange fnExactIsRuleSpec)

/-- ITS FALSE NEIGHBOUR: 'it returns false'. Refute it at one input. -/
def fnExactIsRuleWrong : ChangeSpec := { name := "fnExactIsRule", fn := fun _ => fun
  | [d] => { results := [.lit (.bool false)], args := [d] }
  | _ => none }
def FnExactIsRuleWrongFalsely : Prop := fnExactIsRuleRow.holds Try.pinned (OpenSpec.ofChange fnExactIsRuleWrong)

/-- 'laws.FnExactCouplesTogether': WHATEVER THE INPUT: true; the input reads as it did. -/
def fnExactCouplesTogetherSpec : ChangeSpec := { name := "fnExactCouplesTogether", fn := fun _ => fun
  | [d1, d2, d3] => { results := [.lit (.bool true)], args := [d1, d2, d3] }
  | _ => none }
def fnExactCouplesTogetherRow : OpenClaim := { program := "ytfnkcnggbdecjaa", sum := "0c4e4f7814ab2b2d6eacc90f427149d488d889f495d1be1f24c1dee1fd66f7fb", func := "loop.example/g01167/laws.FnExactCouplesTogether", spec := "fnExactCouplesTogether", apart := false }
def FnExactCouplesTogetherSaid : Prop := fnExactCouplesTogetherRow.holds Try.pinned (OpenSpec.ofChange fnExactCouplesTogetherSpec)

/-- ITS FALSE NEIGHBOUR: 'it returns false'. Refute it at one input. -/
def fnExactCouplesTogetherWrong : ChangeSpec := { name := "fnExactCouplesTogether", fn := fun _ => fun
  | [d1, d2, d3] => { results := [.lit (.bool false)], args := [d1, d2, d3] }
  | _ => none }
def FnExactCouplesTogetherWrongFalsely : Prop := fnExactCouplesTogetherRow.holds Try.pinned (OpenSpec.ofChange fnExactCouplesTogetherWrong)

/- THE SECOND FORM. 'bulk': how many values and letters a reading holds, each counted each time it is reached (what is shared counts as often as it is met; a slice's spare places count too). A statement '..UptoSaid' is the law's where the arguments, and the package variables that the reading takes, are together of bulk at most 1048576: NARROWER than '..Said'. Prove '..Said' where nothing that the law and all that it calls make is longer than what came in: it says more and counts as full. Else prove '..UptoSaid'. A law counts once. -/
mutual
def uptoBulk {H : Type} : DataW H → Nat
  | .lit (.string bytes) => bytes.length + 1
  | .lit _ => 1
  | .nil => 1
  | .ptr d => uptoBulk d + 1
  | .slice elems spare => uptoBulkAll elems + uptoBulkAll spare + 1
  | .agg parts => uptoBulkAll parts + 1
  | .iface _ d => uptoBulk d + 1
  | .map entries => uptoBulkEntries entries + 1
  | .held _ => 1
def uptoBulkAll {H : Type} : List (DataW H) → Nat
  | [] => 0
  | d :: r => uptoBulk d + uptoBulkAll r
def uptoBulkEntries {H : Type} : List (Lit × DataW H) → Nat
  | [] => 0
  | x :: r => uptoBulkEntry x + uptoBulkEntries r
def uptoBulkEntry {H : Type} : Lit × DataW H → Nat
  | (.string bytes, d) => bytes.length + uptoBulk d + 1
  | (_, d) => uptoBulk d + 1
 end
def uptoSmall : (H : Type) → List (DataW H) → Bool := fun _ ds => decide (uptoBulkAll ds ≤ 1048576)
def OpenSpec.upto (s : _root_.Go.ChangeSpec) : _root_.Go.OpenSpec := { _root_.Go.OpenSpec.ofChange s with cond := some uptoSmall }

/-- 'laws.FnExactMenageCount', WHERE WHAT IT READS IS OF BULK AT MOST 1048576: true; the input reads as it did. -/
def fnExactMenageCountUptoRow : OpenClaim := { program := "ytfnkcnggbdecjaa", sum := "0c4e4f7814ab2b2d6eacc90f427149d488d889f495d1be1f24c1dee1fd66f7fb", func := "loop.example/g01167/laws.FnExactMenageCount", spec := "fnExactMenageCount", unfollowed := true, recurses := true, apart := false, narrowed := true }
def FnExactMenageCountUptoSaid : Prop := fnExactMenageCountUptoRow.holds Try.pinned (OpenSpec.upto fnExactMenageCountSpec)

/-- 'laws.FnExactIsEntering', WHERE WHAT IT READS IS OF BULK AT MOST 1048576: true; the input reads as it did. -/
def fnExactIsEnteringUptoRow : OpenClaim := { program := "ytfnkcnggbdecjaa", sum := "0c4e4f7814ab2b2d6eacc90f427149d488d889f495d1be1f24c1dee1fd66f7fb", func := "loop.example/g01167/laws.FnExactIsEntering", spec := "fnExactIsEntering", apart := false, narrowed := true }
def FnExactIsEnteringUptoSaid : Prop := fnExactIsEnteringUptoRow.holds Try.pinned (OpenSpec.upto fnExactIsEnteringSpec)

/-- 'laws.FnExactIsParty', WHERE WHAT IT READS IS OF BULK AT MOST 1048576: true; the input reads as it did. -/
def fnExactIsPartyUptoRow : OpenClaim := { program := "ytfnkcnggbdecjaa", sum := "0c4e4f7814ab2b2d6eacc90f427149d488d889f495d1be1f24c1dee1fd66f7fb", func := "loop.example/g01167/laws.FnExactIsParty", spec := "fnExactIsParty", apart := false, narrowed := true }
def FnExactIsPartyUptoSaid : Prop := fnExactIsPartyUptoRow.holds Try.pinned (OpenSpec.upto fnExactIsPartySpec)

/-- 'laws.FnExactFamilyCount', WHERE WHAT IT READS IS OF BULK AT MOST 1048576: true; the input reads as it did. -/
def fnExactFamilyCountUptoRow : OpenClaim := { program := "ytfnkcnggbdecjaa", sum := "0c4e4f7814ab2b2d6eacc90f427149d488d889f495d1be1f24c1dee1fd66f7fb", func := "loop.example/g01167/laws.FnExactFamilyCount", spec := "fnExactFamilyCount", apart := false, narrowed := true }
def FnExactFamilyCountUptoSaid : Prop := fnExactFamilyCountUptoRow.holds Try.pinned (OpenSpec.upto fnExactFamilyCountSpec)

/-- 'laws.FnExactIsRule', WHERE WHAT IT READS IS OF BULK AT MOST 1048576: true; the input reads as it did. -/
def fnExactIsRuleUptoRow : OpenClaim := { program := "ytfnkcnggbdecjaa", sum := "0c4e4f7814ab2b2d6eacc90f427149d488d889f495d1be1f24c1dee1fd66f7fb", func := "loop.example/g01167/laws.FnExactIsRule", spec := "fnExactIsRule", apart := false, narrowed := true }
def FnExactIsRuleUptoSaid : Prop := fnExactIsRuleUptoRow.holds Try.pinned (OpenSpec.upto fnExactIsRuleSpec)

/-- 'laws.FnExactCouplesTogether', WHERE WHAT IT READS IS OF BULK AT MOST 1048576: true; the input reads as it did. -/
def fnExactCouplesTogetherUptoRow : OpenClaim := { program := "ytfnkcnggbdecjaa", sum := "0c4e4f7814ab2b2d6eacc90f427149d488d889f495d1be1f24c1dee1fd66f7fb", func := "loop.example/g01167/laws.FnExactCouplesTogether", spec := "fnExactCouplesTogether", apart := false, narrowed := true }
def FnExactCouplesTogetherUptoSaid : Prop := fnExactCouplesTogetherUptoRow.holds Try.pinned (OpenSpec.upto fnExactCouplesTogetherSpec)

end Rows
end Go.Proofs.Ytfnkcnggbdecjaa
