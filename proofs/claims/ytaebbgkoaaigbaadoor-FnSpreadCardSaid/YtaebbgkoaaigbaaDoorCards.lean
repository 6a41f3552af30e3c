/-
  DERIVED. GIVEN WITH THE SEED: THE CARDS: each row of YtaebbgkoaaigbaaDoorRows.lean that lists a variable, with what it lists TIED to the program's text (the seventh form; the later family's looks); each row that meets fmt, with fmt's text TOLD by the authors' own Lean function (tested against real Go, not proved from fmt's source: count such statements apart). THE CARD IS WHAT COUNTS. Prove the row's statement (the work); the ties are given (YtaebbgkoaaigbaaDoorTie.lean); close each card by the builder's one call (the guide's Derived/Test/ToyasCard.lean, 'card_holds'). Laid BY PROGRAM, IN A SANDBOX (cutbox-door.mjs). By AI agents, Wed Nov 11 2026. No macro, syntax, notation, axiom, sorry.
-/
import Derived.Test.YtaebbgkoaaigbaaDoorRows
import GoSem.ClaimSeven
namespace Go.Proofs.YtaebbgkoaaigbaaDoor
namespace Rows

/-- THE TIED CARD OF 'laws.FnSpread'. -/
def fnSpreadCard : Claim7 := { stood := { row := fnSpreadRow, standIns := [], harness := (true, "4717f51d5c51bbbc2e06c68d92f9902c8f5e15f3e2b50ea834ec62108da4c239"), looks := false }, kinds := [], alts := [], laidByText := true, laidKinds := [.data], laidTests := true, laidLooks := .later }
def FnSpreadCardSaid : Prop := Claim7.holds Tryd.pinned (.plain (OpenSpec.ofChange fnSpreadSpec)) fnSpreadCard

/-- THE TIED CARD OF 'laws.FnPolite'. -/
def fnPoliteCard : Claim7 := { stood := { row := fnPoliteRow, standIns := [], harness := (true, "4717f51d5c51bbbc2e06c68d92f9902c8f5e15f3e2b50ea834ec62108da4c239"), looks := false }, kinds := [], alts := [], laidByText := true, laidKinds := [.data], laidTests := true, laidLooks := .later }
def FnPoliteCardSaid : Prop := Claim7.holds Tryd.pinned (.plain (OpenSpec.ofChange fnPoliteSpec)) fnPoliteCard

/-- THE SECOND FORM's CARD OF 'laws.FnSpread'. -/
def fnSpreadUptoCard : Claim7 := { stood := { row := fnSpreadUptoRow, standIns := [], harness := (true, "4717f51d5c51bbbc2e06c68d92f9902c8f5e15f3e2b50ea834ec62108da4c239"), looks := false }, kinds := [], alts := [], laidByText := true, laidKinds := [.data], laidTests := true, laidLooks := .later }
def FnSpreadUptoCardSaid : Prop := Claim7.holds Tryd.pinned (.plain (OpenSpec.upto fnSpreadSpec)) fnSpreadUptoCard

/-- THE SECOND FORM's CARD OF 'laws.FnPolite'. -/
def fnPoliteUptoCard : Claim7 := { stood := { row := fnPoliteUptoRow, standIns := [], harness := (true, "4717f51d5c51bbbc2e06c68d92f9902c8f5e15f3e2b50ea834ec62108da4c239"), looks := false }, kinds := [], alts := [], laidByText := true, laidKinds := [.data], laidTests := true, laidLooks := .later }
def FnPoliteUptoCardSaid : Prop := Claim7.holds Tryd.pinned (.plain (OpenSpec.upto fnPoliteSpec)) fnPoliteUptoCard
end Rows
end Go.Proofs.YtaebbgkoaaigbaaDoor
