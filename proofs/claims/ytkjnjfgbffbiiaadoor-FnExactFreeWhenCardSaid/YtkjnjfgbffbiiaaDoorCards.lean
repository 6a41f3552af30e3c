/-
  DERIVED. GIVEN WITH THE SEED: THE CARDS: each row of YtkjnjfgbffbiiaaDoorRows.lean that lists a variable, with what it lists TIED to the program's text (the seventh form; the later family's looks); each row that meets fmt, with fmt's text TOLD by the authors' own Lean function (tested against real Go, not proved from fmt's source: count such statements apart). THE CARD IS WHAT COUNTS. Prove the row's statement (the work); the ties are given (YtkjnjfgbffbiiaaDoorTie.lean); close each card by the builder's one call (the guide's Derived/Test/ToyasCard.lean, 'card_holds'). Laid BY PROGRAM, IN A SANDBOX (cutbox-door.mjs). By AI agents, Wed Nov 11 2026. No macro, syntax, notation, axiom, sorry.
-/
import Derived.Test.YtkjnjfgbffbiiaaDoorRows
import GoSem.ClaimSeven
namespace Go.Proofs.YtkjnjfgbffbiiaaDoor
namespace Rows

/-- THE TIED CARD OF 'laws.FnExactFreeWhen'. -/
def fnExactFreeWhenCard : Claim7 := { stood := { row := fnExactFreeWhenRow, standIns := [], harness := (true, "acabf6ec05bf6919a5286740e246aa95a578d33b4e36b575099360ec3c2deb05"), looks := false }, kinds := [], alts := [], laidByText := true, laidKinds := [.data], laidTests := true, laidLooks := .later }
def FnExactFreeWhenCardSaid : Prop := Claim7.holds Tryd.pinned (.plain (OpenSpec.ofChange fnExactFreeWhenSpec)) fnExactFreeWhenCard

/-- THE SECOND FORM's CARD OF 'laws.FnExactFreeWhen'. -/
def fnExactFreeWhenUptoCard : Claim7 := { stood := { row := fnExactFreeWhenUptoRow, standIns := [], harness := (true, "acabf6ec05bf6919a5286740e246aa95a578d33b4e36b575099360ec3c2deb05"), looks := false }, kinds := [], alts := [], laidByText := true, laidKinds := [.data], laidTests := true, laidLooks := .later }
def FnExactFreeWhenUptoCardSaid : Prop := Claim7.holds Tryd.pinned (.plain (OpenSpec.upto fnExactFreeWhenSpec)) fnExactFreeWhenUptoCard
end Rows
end Go.Proofs.YtkjnjfgbffbiiaaDoor
