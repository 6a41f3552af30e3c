/-
  DERIVED. GIVEN WITH THE SEED: THE CARDS: each row of YtnoipklaebadeaaDoorRows.lean that lists a variable, with what it lists TIED to the program's text (the seventh form; the later family's looks); each row that meets fmt, with fmt's text TOLD by the authors' own Lean function (tested against real Go, not proved from fmt's source: count such statements apart). THE CARD IS WHAT COUNTS. Prove the row's statement (the work); the ties are given (YtnoipklaebadeaaDoorTie.lean); close each card by the builder's one call (the guide's Derived/Test/ToyasCard.lean, 'card_holds'). Laid BY PROGRAM, IN A SANDBOX (cutbox-door.mjs). By AI agents, Wed Nov 11 2026. No macro, syntax, notation, axiom, sorry.
-/
import Derived.Test.YtnoipklaebadeaaDoorRows
import GoSem.ClaimSeven
namespace Go.Proofs.YtnoipklaebadeaaDoor
namespace Rows

/-- THE TIED CARD OF 'laws.FnPlacings'. -/
def fnPlacingsCard : Claim7 := { stood := { row := fnPlacingsRow, standIns := [], harness := (true, "7b53145f0d2c3566c6b55c1fcf8023422ca961f4ea7df68ad887c84ee6b80b9a"), looks := false }, kinds := [], alts := [], laidByText := true, laidKinds := [.data], laidTests := true, laidLooks := .later }
def FnPlacingsCardSaid : Prop := Claim7.holds Tryd.pinned (.plain (OpenSpec.ofChange fnPlacingsSpec)) fnPlacingsCard

/-- THE SECOND FORM's CARD OF 'laws.FnPlacings'. -/
def fnPlacingsUptoCard : Claim7 := { stood := { row := fnPlacingsUptoRow, standIns := [], harness := (true, "7b53145f0d2c3566c6b55c1fcf8023422ca961f4ea7df68ad887c84ee6b80b9a"), looks := false }, kinds := [], alts := [], laidByText := true, laidKinds := [.data], laidTests := true, laidLooks := .later }
def FnPlacingsUptoCardSaid : Prop := Claim7.holds Tryd.pinned (.plain (OpenSpec.upto fnPlacingsSpec)) fnPlacingsUptoCard
end Rows
end Go.Proofs.YtnoipklaebadeaaDoor
