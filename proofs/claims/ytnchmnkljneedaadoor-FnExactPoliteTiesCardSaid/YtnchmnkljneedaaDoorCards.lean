/-
  DERIVED. GIVEN WITH THE SEED: THE CARDS: each row of YtnchmnkljneedaaDoorRows.lean that lists a variable, with what it lists TIED to the program's text (the seventh form; the later family's looks); each row that meets fmt, with fmt's text TOLD by the authors' own Lean function (tested against real Go, not proved from fmt's source: count such statements apart). THE CARD IS WHAT COUNTS. Prove the row's statement (the work); the ties are given (YtnchmnkljneedaaDoorTie.lean); close each card by the builder's one call (the guide's Derived/Test/ToyasCard.lean, 'card_holds'). Laid BY PROGRAM, IN A SANDBOX (cutbox-door.mjs). By AI agents, Wed Nov 11 2026. No macro, syntax, notation, axiom, sorry.
-/
import Derived.Test.YtnchmnkljneedaaDoorRows
import GoSem.ClaimSeven
namespace Go.Proofs.YtnchmnkljneedaaDoor
namespace Rows

/-- THE TIED CARD OF 'laws.FnExactBestStart'. -/
def fnExactBestStartCard : Claim7 := { stood := { row := fnExactBestStartRow, standIns := [], harness := (true, "6655a75181a402582100b996b7870cfcae53491dd1c81759e14cadad358c12d0"), looks := false }, kinds := [], alts := [], laidByText := true, laidKinds := [.data], laidTests := true, laidLooks := .later }
def FnExactBestStartCardSaid : Prop := Claim7.holds Tryd.pinned (.plain (OpenSpec.ofChange fnExactBestStartSpec)) fnExactBestStartCard

/-- THE TIED CARD OF 'laws.FnExactWorstStart'. -/
def fnExactWorstStartCard : Claim7 := { stood := { row := fnExactWorstStartRow, standIns := [], harness := (true, "6655a75181a402582100b996b7870cfcae53491dd1c81759e14cadad358c12d0"), looks := false }, kinds := [], alts := [], laidByText := true, laidKinds := [.data], laidTests := true, laidLooks := .later }
def FnExactWorstStartCardSaid : Prop := Claim7.holds Tryd.pinned (.plain (OpenSpec.ofChange fnExactWorstStartSpec)) fnExactWorstStartCard

/-- THE TIED CARD OF 'laws.FnExactPoliteTies'. -/
def fnExactPoliteTiesCard : Claim7 := { stood := { row := fnExactPoliteTiesRow, standIns := [], harness := (true, "6655a75181a402582100b996b7870cfcae53491dd1c81759e14cadad358c12d0"), looks := false }, kinds := [], alts := [], laidByText := true, laidKinds := [.data], laidTests := true, laidLooks := .later }
def FnExactPoliteTiesCardSaid : Prop := Claim7.holds Tryd.pinned (.plain (OpenSpec.ofChange fnExactPoliteTiesSpec)) fnExactPoliteTiesCard

/-- THE TIED CARD OF 'laws.FnExactAfterPolite'. -/
def fnExactAfterPoliteCard : Claim7 := { stood := { row := fnExactAfterPoliteRow, standIns := [], harness := (true, "6655a75181a402582100b996b7870cfcae53491dd1c81759e14cadad358c12d0"), looks := false }, kinds := [], alts := [], laidByText := true, laidKinds := [.data], laidTests := true, laidLooks := .later }
def FnExactAfterPoliteCardSaid : Prop := Claim7.holds Tryd.pinned (.plain (OpenSpec.ofChange fnExactAfterPoliteSpec)) fnExactAfterPoliteCard

/-- THE TIED CARD OF 'laws.FnExactPoliteSpread'. -/
def fnExactPoliteSpreadCard : Claim7 := { stood := { row := fnExactPoliteSpreadRow, standIns := [], harness := (true, "6655a75181a402582100b996b7870cfcae53491dd1c81759e14cadad358c12d0"), looks := false }, kinds := [], alts := [], laidByText := true, laidKinds := [.data], laidTests := true, laidLooks := .later }
def FnExactPoliteSpreadCardSaid : Prop := Claim7.holds Tryd.pinned (.plain (OpenSpec.ofChange fnExactPoliteSpreadSpec)) fnExactPoliteSpreadCard

/-- THE SECOND FORM's CARD OF 'laws.FnExactBestStart'. -/
def fnExactBestStartUptoCard : Claim7 := { stood := { row := fnExactBestStartUptoRow, standIns := [], harness := (true, "6655a75181a402582100b996b7870cfcae53491dd1c81759e14cadad358c12d0"), looks := false }, kinds := [], alts := [], laidByText := true, laidKinds := [.data], laidTests := true, laidLooks := .later }
def FnExactBestStartUptoCardSaid : Prop := Claim7.holds Tryd.pinned (.plain (OpenSpec.upto fnExactBestStartSpec)) fnExactBestStartUptoCard

/-- THE SECOND FORM's CARD OF 'laws.FnExactWorstStart'. -/
def fnExactWorstStartUptoCard : Claim7 := { stood := { row := fnExactWorstStartUptoRow, standIns := [], harness := (true, "6655a75181a402582100b996b7870cfcae53491dd1c81759e14cadad358c12d0"), looks := false }, kinds := [], alts := [], laidByText := true, laidKinds := [.data], laidTests := true, laidLooks := .later }
def FnExactWorstStartUptoCardSaid : Prop := Claim7.holds Tryd.pinned (.plain (OpenSpec.upto fnExactWorstStartSpec)) fnExactWorstStartUptoCard

/-- THE SECOND FORM's CARD OF 'laws.FnExactPoliteTies'. -/
def fnExactPoliteTiesUptoCard : Claim7 := { stood := { row := fnExactPoliteTiesUptoRow, standIns := [], harness := (true, "6655a75181a402582100b996b7870cfcae53491dd1c81759e14cadad358c12d0"), looks := false }, kinds := [], alts := [], laidByText := true, laidKinds := [.data], laidTests := true, laidLooks := .later }
def FnExactPoliteTiesUptoCardSaid : Prop := Claim7.holds Tryd.pinned (.plain (OpenSpec.upto fnExactPoliteTiesSpec)) fnExactPoliteTiesUptoCard

/-- THE SECOND FORM's CARD OF 'laws.FnExactAfterPolite'. -/
def fnExactAfterPoliteUptoCard : Claim7 := { stood := { row := fnExactAfterPoliteUptoRow, standIns := [], harness := (true, "6655a75181a402582100b996b7870cfcae53491dd1c81759e14cadad358c12d0"), looks := false }, kinds := [], alts := [], laidByText := true, laidKinds := [.data], laidTests := true, laidLooks := .later }
def FnExactAfterPoliteUptoCardSaid : Prop := Claim7.holds Tryd.pinned (.plain (OpenSpec.upto fnExactAfterPoliteSpec)) fnExactAfterPoliteUptoCard

/-- THE SECOND FORM's CARD OF 'laws.FnExactPoliteSpread'. -/
def fnExactPoliteSpreadUptoCard : Claim7 := { stood := { row := fnExactPoliteSpreadUptoRow, standIns := [], harness := (true, "6655a75181a402582100b996b7870cfcae53491dd1c81759e14cadad358c12d0"), looks := false }, kinds := [], alts := [], laidByText := true, laidKinds := [.data], laidTests := true, laidLooks := .later }
def FnExactPoliteSpreadUptoCardSaid : Prop := Claim7.holds Tryd.pinned (.plain (OpenSpec.upto fnExactPoliteSpreadSpec)) fnExactPoliteSpreadUptoCard
end Rows
end Go.Proofs.YtnchmnkljneedaaDoor
