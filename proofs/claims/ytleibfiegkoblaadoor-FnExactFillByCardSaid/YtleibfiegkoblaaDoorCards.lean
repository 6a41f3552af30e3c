/-
  DERIVED. GIVEN WITH THE SEED: THE CARDS: each row of YtleibfiegkoblaaDoorRows.lean that lists a variable, with what it lists TIED to the program's text (the seventh form; the later family's looks); each row that meets fmt, with fmt's text TOLD by the authors' own Lean function (tested against real Go, not proved from fmt's source: count such statements apart). THE CARD IS WHAT COUNTS. Prove the row's statement (the work); the ties are given (YtleibfiegkoblaaDoorTie.lean); close each card by the builder's one call (the guide's Derived/Test/ToyasCard.lean, 'card_holds'). Laid BY PROGRAM, IN A SANDBOX (cutbox-door.mjs). By AI agents, Wed Nov 11 2026. No macro, syntax, notation, axiom, sorry.
-/
import Derived.Test.YtleibfiegkoblaaDoorRows
import GoSem.ClaimSeven
namespace Go.Proofs.YtleibfiegkoblaaDoor
namespace Rows

/-- THE TIED CARD OF 'laws.FnExactFillBy'. -/
def fnExactFillByCard : Claim7 := { stood := { row := fnExactFillByRow, standIns := [], harness := (true, "8177f4b5b5c0c96f68af3bc2edb35fb45a7c9e3c5f05724e4b648789d7e2afc6"), looks := false }, kinds := [], alts := [], laidByText := true, laidKinds := [.data], laidTests := true, laidLooks := .later }
def FnExactFillByCardSaid : Prop := Claim7.holds Tryd.pinned (.plain (OpenSpec.ofChange fnExactFillBySpec)) fnExactFillByCard

/-- THE TIED CARD OF 'laws.FnExactFillMean'. -/
def fnExactFillMeanCard : Claim7 := { stood := { row := fnExactFillMeanRow, standIns := [], harness := (true, "8177f4b5b5c0c96f68af3bc2edb35fb45a7c9e3c5f05724e4b648789d7e2afc6"), looks := false }, kinds := [], alts := [], laidByText := true, laidKinds := [.data], laidTests := true, laidLooks := .later }
def FnExactFillMeanCardSaid : Prop := Claim7.holds Tryd.pinned (.plain (OpenSpec.ofChange fnExactFillMeanSpec)) fnExactFillMeanCard

/-- THE TIED CARD OF 'laws.FnExactFillCounts'. -/
def fnExactFillCountsCard : Claim7 := { stood := { row := fnExactFillCountsRow, standIns := [], harness := (true, "8177f4b5b5c0c96f68af3bc2edb35fb45a7c9e3c5f05724e4b648789d7e2afc6"), looks := false }, kinds := [], alts := [], laidByText := true, laidKinds := [.data], laidTests := true, laidLooks := .later }
def FnExactFillCountsCardSaid : Prop := Claim7.holds Tryd.pinned (.plain (OpenSpec.ofChange fnExactFillCountsSpec)) fnExactFillCountsCard

/-- THE SECOND FORM's CARD OF 'laws.FnExactFillBy'. -/
def fnExactFillByUptoCard : Claim7 := { stood := { row := fnExactFillByUptoRow, standIns := [], harness := (true, "8177f4b5b5c0c96f68af3bc2edb35fb45a7c9e3c5f05724e4b648789d7e2afc6"), looks := false }, kinds := [], alts := [], laidByText := true, laidKinds := [.data], laidTests := true, laidLooks := .later }
def FnExactFillByUptoCardSaid : Prop := Claim7.holds Tryd.pinned (.plain (OpenSpec.upto fnExactFillBySpec)) fnExactFillByUptoCard

/-- THE SECOND FORM's CARD OF 'laws.FnExactFillMean'. -/
def fnExactFillMeanUptoCard : Claim7 := { stood := { row := fnExactFillMeanUptoRow, standIns := [], harness := (true, "8177f4b5b5c0c96f68af3bc2edb35fb45a7c9e3c5f05724e4b648789d7e2afc6"), looks := false }, kinds := [], alts := [], laidByText := true, laidKinds := [.data], laidTests := true, laidLooks := .later }
def FnExactFillMeanUptoCardSaid : Prop := Claim7.holds Tryd.pinned (.plain (OpenSpec.upto fnExactFillMeanSpec)) fnExactFillMeanUptoCard

/-- THE SECOND FORM's CARD OF 'laws.FnExactFillCounts'. -/
def fnExactFillCountsUptoCard : Claim7 := { stood := { row := fnExactFillCountsUptoRow, standIns := [], harness := (true, "8177f4b5b5c0c96f68af3bc2edb35fb45a7c9e3c5f05724e4b648789d7e2afc6"), looks := false }, kinds := [], alts := [], laidByText := true, laidKinds := [.data], laidTests := true, laidLooks := .later }
def FnExactFillCountsUptoCardSaid : Prop := Claim7.holds Tryd.pinned (.plain (OpenSpec.upto fnExactFillCountsSpec)) fnExactFillCountsUptoCard
end Rows
end Go.Proofs.YtleibfiegkoblaaDoor
