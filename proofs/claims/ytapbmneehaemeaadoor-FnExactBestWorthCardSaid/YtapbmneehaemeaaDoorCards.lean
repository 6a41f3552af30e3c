/-
  DERIVED. GIVEN WITH THE SEED: THE CARDS: each row of YtapbmneehaemeaaDoorRows.lean that lists a variable, with what it lists TIED to the program's text (the seventh form; the later family's looks); each row that meets fmt, with fmt's text TOLD by the authors' own Lean function (tested against real Go, not proved from fmt's source: count such statements apart). THE CARD IS WHAT COUNTS. Prove the row's statement (the work); the ties are given (YtapbmneehaemeaaDoorTie.lean); close each card by the builder's one call (the guide's Derived/Test/ToyasCard.lean, 'card_holds'). Laid BY PROGRAM, IN A SANDBOX (cutbox-door.mjs). By AI agents, Wed Nov 11 2026. No macro, syntax, notation, axiom, sorry.
-/
import Derived.Test.YtapbmneehaemeaaDoorRows
import GoSem.ClaimSeven
namespace Go.Proofs.YtapbmneehaemeaaDoor
namespace Rows

/-- THE TIED CARD OF 'laws.FnExactIsSpaced'. -/
def fnExactIsSpacedCard : Claim7 := { stood := { row := fnExactIsSpacedRow, standIns := [], harness := (true, "c77e24d97ddd6b7e05261f268d57613db0c1f357367714d14c80efe017484590"), looks := false }, kinds := [], alts := [], laidByText := true, laidKinds := [.data], laidTests := true, laidLooks := .later }
def FnExactIsSpacedCardSaid : Prop := Claim7.holds Tryd.pinned (.plain (OpenSpec.ofChange fnExactIsSpacedSpec)) fnExactIsSpacedCard

/-- THE TIED CARD OF 'laws.FnExactCountSpaced'. -/
def fnExactCountSpacedCard : Claim7 := { stood := { row := fnExactCountSpacedRow, standIns := [], harness := (true, "c77e24d97ddd6b7e05261f268d57613db0c1f357367714d14c80efe017484590"), looks := false }, kinds := [], alts := [], laidByText := true, laidKinds := [.data], laidTests := true, laidLooks := .later }
def FnExactCountSpacedCardSaid : Prop := Claim7.holds Tryd.pinned (.plain (OpenSpec.ofChange fnExactCountSpacedSpec)) fnExactCountSpacedCard

/-- THE TIED CARD OF 'laws.FnExactGreatestSpread'. -/
def fnExactGreatestSpreadCard : Claim7 := { stood := { row := fnExactGreatestSpreadRow, standIns := [], harness := (true, "c77e24d97ddd6b7e05261f268d57613db0c1f357367714d14c80efe017484590"), looks := false }, kinds := [], alts := [], laidByText := true, laidKinds := [.data], laidTests := true, laidLooks := .later }
def FnExactGreatestSpreadCardSaid : Prop := Claim7.holds Tryd.pinned (.plain (OpenSpec.ofChange fnExactGreatestSpreadSpec)) fnExactGreatestSpreadCard

/-- THE TIED CARD OF 'laws.FnExactMostSpaced'. -/
def fnExactMostSpacedCard : Claim7 := { stood := { row := fnExactMostSpacedRow, standIns := [], harness := (true, "c77e24d97ddd6b7e05261f268d57613db0c1f357367714d14c80efe017484590"), looks := false }, kinds := [], alts := [], laidByText := true, laidKinds := [.data], laidTests := true, laidLooks := .later }
def FnExactMostSpacedCardSaid : Prop := Claim7.holds Tryd.pinned (.plain (OpenSpec.ofChange fnExactMostSpacedSpec)) fnExactMostSpacedCard

/-- THE TIED CARD OF 'laws.FnExactFirstSpaced'. -/
def fnExactFirstSpacedCard : Claim7 := { stood := { row := fnExactFirstSpacedRow, standIns := [], harness := (true, "c77e24d97ddd6b7e05261f268d57613db0c1f357367714d14c80efe017484590"), looks := false }, kinds := [], alts := [], laidByText := true, laidKinds := [.data], laidTests := true, laidLooks := .later }
def FnExactFirstSpacedCardSaid : Prop := Claim7.holds Tryd.pinned (.plain (OpenSpec.ofChange fnExactFirstSpacedSpec)) fnExactFirstSpacedCard

/-- THE TIED CARD OF 'laws.FnExactBestWorth'. -/
def fnExactBestWorthCard : Claim7 := { stood := { row := fnExactBestWorthRow, standIns := [], harness := (true, "c77e24d97ddd6b7e05261f268d57613db0c1f357367714d14c80efe017484590"), looks := false }, kinds := [], alts := [], laidByText := true, laidKinds := [.data], laidTests := true, laidLooks := .later }
def FnExactBestWorthCardSaid : Prop := Claim7.holds Tryd.pinned (.plain (OpenSpec.ofChange fnExactBestWorthSpec)) fnExactBestWorthCard

/-- THE SECOND FORM's CARD OF 'laws.FnExactIsSpaced'. -/
def fnExactIsSpacedUptoCard : Claim7 := { stood := { row := fnExactIsSpacedUptoRow, standIns := [], harness := (true, "c77e24d97ddd6b7e05261f268d57613db0c1f357367714d14c80efe017484590"), looks := false }, kinds := [], alts := [], laidByText := true, laidKinds := [.data], laidTests := true, laidLooks := .later }
def FnExactIsSpacedUptoCardSaid : Prop := Claim7.holds Tryd.pinned (.plain (OpenSpec.upto fnExactIsSpacedSpec)) fnExactIsSpacedUptoCard

/-- THE SECOND FORM's CARD OF 'laws.FnExactCountSpaced'. -/
def fnExactCountSpacedUptoCard : Claim7 := { stood := { row := fnExactCountSpacedUptoRow, standIns := [], harness := (true, "c77e24d97ddd6b7e05261f268d57613db0c1f357367714d14c80efe017484590"), looks := false }, kinds := [], alts := [], laidByText := true, laidKinds := [.data], laidTests := true, laidLooks := .later }
def FnExactCountSpacedUptoCardSaid : Prop := Claim7.holds Tryd.pinned (.plain (OpenSpec.upto fnExactCountSpacedSpec)) fnExactCountSpacedUptoCard

/-- THE SECOND FORM's CARD OF 'laws.FnExactGreatestSpread'. -/
def fnExactGreatestSpreadUptoCard : Claim7 := { stood := { row := fnExactGreatestSpreadUptoRow, standIns := [], harness := (true, "c77e24d97ddd6b7e05261f268d57613db0c1f357367714d14c80efe017484590"), looks := false }, kinds := [], alts := [], laidByText := true, laidKinds := [.data], laidTests := true, laidLooks := .later }
def FnExactGreatestSpreadUptoCardSaid : Prop := Claim7.holds Tryd.pinned (.plain (OpenSpec.upto fnExactGreatestSpreadSpec)) fnExactGreatestSpreadUptoCard

/-- THE SECOND FORM's CARD OF 'laws.FnExactMostSpaced'. -/
def fnExactMostSpacedUptoCard : Claim7 := { stood := { row := fnExactMostSpacedUptoRow, standIns := [], harness := (true, "c77e24d97ddd6b7e05261f268d57613db0c1f357367714d14c80efe017484590"), looks := false }, kinds := [], alts := [], laidByText := true, laidKinds := [.data], laidTests := true, laidLooks := .later }
def FnExactMostSpacedUptoCardSaid : Prop := Claim7.holds Tryd.pinned (.plain (OpenSpec.upto fnExactMostSpacedSpec)) fnExactMostSpacedUptoCard

/-- THE SECOND FORM's CARD OF 'laws.FnExactFirstSpaced'. -/
def fnExactFirstSpacedUptoCard : Claim7 := { stood := { row := fnExactFirstSpacedUptoRow, standIns := [], harness := (true, "c77e24d97ddd6b7e05261f268d57613db0c1f357367714d14c80efe017484590"), looks := false }, kinds := [], alts := [], laidByText := true, laidKinds := [.data], laidTests := true, laidLooks := .later }
def FnExactFirstSpacedUptoCardSaid : Prop := Claim7.holds Tryd.pinned (.plain (OpenSpec.upto fnExactFirstSpacedSpec)) fnExactFirstSpacedUptoCard

/-- THE SECOND FORM's CARD OF 'laws.FnExactBestWorth'. -/
def fnExactBestWorthUptoCard : Claim7 := { stood := { row := fnExactBestWorthUptoRow, standIns := [], harness := (true, "c77e24d97ddd6b7e05261f268d57613db0c1f357367714d14c80efe017484590"), looks := false }, kinds := [], alts := [], laidByText := true, laidKinds := [.data], laidTests := true, laidLooks := .later }
def FnExactBestWorthUptoCardSaid : Prop := Claim7.holds Tryd.pinned (.plain (OpenSpec.upto fnExactBestWorthSpec)) fnExactBestWorthUptoCard
end Rows
end Go.Proofs.YtapbmneehaemeaaDoor
