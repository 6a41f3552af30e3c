/- Proved: each Go function named here, called, comes to the answer of the Lean function beside it. Conditions: those that stand in each theorem. (Printed by this session's own turned copy of a printing program.) -/
import Derived.Test.YtcgndhkhncmnnaaDoorProg
import Derived.Below
import Derived.Deep.Draws
import Derived.Deep.AppendLies
import Derived.Maps.AppendAt
import Derived.OwnWalk
import Derived.Laws.BytesArg
import Derived.Laws.MakeOwn
import Derived.Laws.OwnMore
import Derived.Deep.OwnRows
import Derived.Tactics
import Derived.Lib.ConvBytes
import Derived.Laws.Slices
import Derived.WalkKit
import Derived.KernelRfl
import Derived.RowKit3
import Derived.Deep.LoopGhost
import Derived.Deep.QuietTactic
import Derived.BigQuiet
import Derived.WideLaws
import Derived.Deep.DeepCutAuto
import Derived.Deep.CutBlock
import Derived.Deep.RegionHeld3
import Derived.Laws.Rows
import Derived.Lib.AppendStr
import Derived.ArgAppend
import Derived.Laws.IdiomCopy
import Derived.OrdersHeld
import Derived.Laws.BitsLemmas
import Derived.RowKit
import Derived.Laws.EntriesVeiled
import Derived.OneCell
import Derived.Laws.Cover3
import Derived.Maps.Own
import Derived.Maps.OwnOps
import Derived.Maps.OwnSet
import Derived.DeepKeys4
import Derived.Deep.DrawnRows
import Derived.Laws.CopyOwn
import Derived.Deep.DeepAppendRoom
import Derived.Deep.DeepAppendWide
import Derived.Test.YtcgndhkhncmnnaaDoorShelfB
import Derived.Lib.SmallJoins
import Derived.Lib.AtoiBound
import Derived.Test.YtcgndhkhncmnnaaDoorWWords
import Derived.Test.YtcgndhkhncmnnaaDoorWLast
import Derived.Test.YtcgndhkhncmnnaaDoorWTab
import Derived.Test.YtcgndhkhncmnnaaDoorWFour
import Derived.Test.YtcgndhkhncmnnaaDoorWQPut
import Derived.Test.YtcgndhkhncmnnaaDoorWApart
import Derived.Test.YtcgndhkhncmnnaaDoorWArr
import Derived.Test.YtcgndhkhncmnnaaDoorWZeros
import Derived.Test.YtcgndhkhncmnnaaDoorWFoot
import Derived.Test.YtcgndhkhncmnnaaDoorWKept
import Derived.Test.YtcgndhkhncmnnaaDoorWShare
import Derived.Test.YtcgndhkhncmnnaaDoorWN
import Derived.Test.YtcgndhkhncmnnaaDoorWFootNe
import Derived.Test.YtcgndhkhncmnnaaDoorWAt
import Derived.Test.YtcgndhkhncmnnaaDoorWEqStruct
import Derived.Test.YtcgndhkhncmnnaaDoorWRepsOne
import Derived.Test.YtcgndhkhncmnnaaDoorWInv
import Derived.Test.YtcgndhkhncmnnaaDoorWInvWords
import Derived.Test.YtcgndhkhncmnnaaDoorWGuard
import Derived.Test.YtcgndhkhncmnnaaDoorWNEv
import Derived.Test.YtcgndhkhncmnnaaDoorWMore
namespace Go.Proofs.YtcgndhkhncmnnaaDoor.PFnStrings
open Go.RowKit Go.Proofs.YtcgndhkhncmnnaaDoorW.PrintWords Go.Proofs.YtcgndhkhncmnnaaDoorW.PrintLast Go.Proofs.YtcgndhkhncmnnaaDoorW.PrintMore
attribute [local go_sem] max2_int min2_int max_two min_two max_three min_three max_four min_four   -- for this text's walks alone
set_option linter.unusedVariables false
set_option linter.unusedSimpArgs false



def errW : Option Int → Value
  | none => .nilIface
  | some c => .iface 0 (.int .i64 c)
theorem errW_none : errW none = .nilIface := rfl
theorem errW_some (c : Int) : errW (some c) = .iface 0 (.int .i64 c) := rfl

theorem info3 : (Tryd.prog.info? 3).map (fun i => (i.zero, i.size, i.bytes)) = some (some (.int .i64 0), 1, 8) := by kernel_rfl
theorem info5 : (Tryd.prog.info? 5).map (fun i => (i.zero, i.size, i.bytes)) = some (some (.int .u8 0), 1, 1) := by kernel_rfl
theorem info9 : (Tryd.prog.info? 9).map (fun i => (i.zero, i.size, i.bytes)) = some (some (.string ⟨#[]⟩), 1, 16) := by kernel_rfl
-- the values' own types

theorem gPow : Tryd.prog.globalNamed "internal/strconv.uint64pow10" = some (3) := by kernel_rfl
/-- The library's number of the longest needle, its table of powers, and its error lie at their places. -/
def GT (w : World) : Prop := (∃ m : Int, w.cell? ⟨0, 0, none⟩ = some (.int .i64 m)) ∧ Lib.TabIs Tryd.prog w "internal/strconv.uint64pow10" .u64 Lib.pow10Tab ∧ ∃ ev, w.cell? ⟨1, 0, none⟩ = some ev ∧ (ev = .nilIface ∨ ∃ te pe, ev = .iface te pe)
theorem GT.below {w w1 : World} (h : GT w) (hb : Below w.heap.size w w1) : GT w1 := by
  obtain ⟨⟨m, hm⟩, ht, ev, he, hv⟩ := h
  exact ⟨⟨m, (hb.cell (World.block_lt_of_cell? w _ hm)).trans hm⟩, Go.Joins.tab_stays gPow ht hb (Nat.le_refl _), ev, (hb.cell (World.block_lt_of_cell? w _ he)).trans he, hv⟩
theorem GT.drewN {w : World} (h : GT w) (m : Nat) : GT (w.drewN m) := h.below (pw_below_drewN (Below.refl _ _) m)
theorem GT.drew {w : World} (h : GT w) : GT w.drew := h.below (below_drew1 (Below.refl _ _))

end Go.Proofs.YtcgndhkhncmnnaaDoor.PFnStrings
