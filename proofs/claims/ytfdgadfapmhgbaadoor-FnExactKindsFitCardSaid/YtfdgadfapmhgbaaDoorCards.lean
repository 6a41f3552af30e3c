/-
  DERIVED. GIVEN WITH THE SEED: THE CARDS: each row of YtfdgadfapmhgbaaDoorRows.lean that lists a variable, with what it lists TIED to the program's text (the seventh form; the later family's looks); each row that meets fmt, with fmt's text TOLD by the authors' own Lean function (tested against real Go, not proved from fmt's source: count such statements apart). THE CARD IS WHAT COUNTS. Prove the row's statement (the work); the ties are given (YtfdgadfapmhgbaaDoorTie.lean); close each card by the builder's one call (the guide's Derived/Test/ToyasCard.lean, 'card_holds'). Laid BY PROGRAM, IN A SANDBOX (cutbox-door.mjs). By AI agents, Wed Nov 11 2026. No macro, syntax, notation, axiom, sorry.
-/
import Derived.Test.YtfdgadfapmhgbaaDoorRows
import GoSem.ClaimSeven
namespace Go.Proofs.YtfdgadfapmhgbaaDoor
namespace Rows

/-- THE TIED CARD OF 'laws.FnExactKindsFit'. -/
def fnExactKindsFitCard : Claim7 := { stood := { row := fnExactKindsFitRow, standIns := [], harness := (true, "f1aa2c8643447ce71a0e0fdcd863e8b0120a4d680b43c11efb5b36b5dc0a937e"), looks := false }, kinds := [], alts := [], laidByText := true, laidKinds := [.data], laidTests := true, laidLooks := .later }
def FnExactKindsFitCardSaid : Prop := Claim7.holds Tryd.pinned (.plain (OpenSpec.ofChange fnExactKindsFitSpec)) fnExactKindsFitCard

/-- THE SECOND FORM's CARD OF 'laws.FnExactKindsFit'. -/
def fnExactKindsFitUptoCard : Claim7 := { stood := { row := fnExactKindsFitUptoRow, standIns := [], harness := (true, "f1aa2c8643447ce71a0e0fdcd863e8b0120a4d680b43c11efb5b36b5dc0a937e"), looks := false }, kinds := [], alts := [], laidByText := true, laidKinds := [.data], laidTests := true, laidLooks := .later }
def FnExactKindsFitUptoCardSaid : Prop := Claim7.holds Tryd.pinned (.plain (OpenSpec.upto fnExactKindsFitSpec)) fnExactKindsFitUptoCard
end Rows
end Go.Proofs.YtfdgadfapmhgbaaDoor
