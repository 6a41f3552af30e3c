/-
  DERIVED. GIVEN WITH THE SEED: THE CARDS: each row of YtohdmhhecjbbbaaDoorRows.lean that lists a variable, with what it lists TIED to the program's text (the seventh form; the later family's looks); each row that meets fmt, with fmt's text TOLD by the authors' own Lean function (tested against real Go, not proved from fmt's source: count such statements apart). THE CARD IS WHAT COUNTS. Prove the row's statement (the work); the ties are given (YtohdmhhecjbbbaaDoorTie.lean); close each card by the builder's one call (the guide's Derived/Test/ToyasCard.lean, 'card_holds'). Laid BY PROGRAM, IN A SANDBOX (cutbox-door.mjs). By AI agents, Wed Nov 11 2026. No macro, syntax, notation, axiom, sorry.
-/
import Derived.Test.YtohdmhhecjbbbaaDoorRows
import GoSem.ClaimSeven
namespace Go.Proofs.YtohdmhhecjbbbaaDoor
namespace Rows

/-- THE TIED CARD OF 'laws.FnExactPlaceRow'. -/
def fnExactPlaceRowCard : Claim7 := { stood := { row := fnExactPlaceRowRow, standIns := [], harness := (true, "4dc4049ca649154bc10b0568a603b7f428139717938759aed3bbb48c4e0c049c"), looks := false }, kinds := [], alts := [], laidByText := true, laidKinds := [.data], laidTests := true, laidLooks := .later }
def FnExactPlaceRowCardSaid : Prop := Claim7.holds Tryd.pinned (.plain (OpenSpec.ofChange fnExactPlaceRowSpec)) fnExactPlaceRowCard

/-- THE SECOND FORM's CARD OF 'laws.FnExactPlaceRow'. -/
def fnExactPlaceRowUptoCard : Claim7 := { stood := { row := fnExactPlaceRowUptoRow, standIns := [], harness := (true, "4dc4049ca649154bc10b0568a603b7f428139717938759aed3bbb48c4e0c049c"), looks := false }, kinds := [], alts := [], laidByText := true, laidKinds := [.data], laidTests := true, laidLooks := .later }
def FnExactPlaceRowUptoCardSaid : Prop := Claim7.holds Tryd.pinned (.plain (OpenSpec.upto fnExactPlaceRowSpec)) fnExactPlaceRowUptoCard
end Rows
end Go.Proofs.YtohdmhhecjbbbaaDoor
