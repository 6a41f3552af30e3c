/- Proved: each Go function named here, called, comes to the answer of the Lean function beside it. Conditions: those that stand in each theorem. (Printed by this session's own turned copy of a printing program.) -/
import Derived.Test.YtkjnjfgbffbiiaaProg
import Derived.Below
import Derived.Deep.Draws
import Derived.Deep.AppendLies
import Derived.Maps.AppendAt
import Derived.OwnWalk
import Derived.Laws.BytesArg
import Derived.Laws.MakeOwn
import Derived.Laws.OwnMore
import Derived.Deep.OwnRows
import Derived.Tactics
import Derived.Lib.ConvBytes
import Derived.Laws.Slices
import Derived.WalkKit
import Derived.KernelRfl
import Derived.RowKit3
import Derived.Deep.LoopGhost
import Derived.Deep.QuietTactic
import Derived.BigQuiet
import Derived.WideLaws
import Derived.Deep.DeepCutAuto
import Derived.Deep.CutBlock
import Derived.Deep.RegionHeld3
import Derived.Laws.Rows
import Derived.Lib.AppendStr
import Derived.ArgAppend
import Derived.Laws.IdiomCopy
import Derived.OrdersHeld
import Derived.Laws.BitsLemmas
import Derived.RowKit
import Derived.Test.YtkjnjfgbffbiiaaWWords
import Derived.Test.YtkjnjfgbffbiiaaWLast
import Derived.Test.YtkjnjfgbffbiiaaWTab
import Derived.Test.YtkjnjfgbffbiiaaWFour
import Derived.Test.YtkjnjfgbffbiiaaWQPut
import Derived.Test.YtkjnjfgbffbiiaaWApart
import Derived.Test.YtkjnjfgbffbiiaaWArr
import Derived.Test.YtkjnjfgbffbiiaaWZeros
import Derived.Test.YtkjnjfgbffbiiaaWFoot
import Derived.Test.YtkjnjfgbffbiiaaWKept
import Derived.Test.YtkjnjfgbffbiiaaWShare
import Derived.Test.YtkjnjfgbffbiiaaWN
import Derived.Test.YtkjnjfgbffbiiaaWFootNe
import Derived.Test.YtkjnjfgbffbiiaaWAt
import Derived.Test.YtkjnjfgbffbiiaaWEqStruct
import Derived.Test.YtkjnjfgbffbiiaaWRepsOne
import Derived.Test.YtkjnjfgbffbiiaaWInv
import Derived.Test.YtkjnjfgbffbiiaaWInvWords
import Derived.Test.YtkjnjfgbffbiiaaWGuard
import Derived.Test.YtkjnjfgbffbiiaaWNEv
import Derived.Test.YtkjnjfgbffbiiaaWMore
namespace Go.Proofs.Ytkjnjfgbffbiiaa.PFnExactTrailOf
open Go.RowKit Go.Proofs.YtkjnjfgbffbiiaaW.PrintWords Go.Proofs.YtkjnjfgbffbiiaaW.PrintLast Go.Proofs.YtkjnjfgbffbiiaaW.PrintMore
attribute [local go_sem] max2_int min2_int max_two min_two max_three min_three max_four min_four   -- for this text's walks alone
set_option linter.unusedVariables false
set_option linter.unusedSimpArgs false



def errW : Option Int → Value
  | none => .nilIface
  | some c => .iface 0 (.int .i64 c)
theorem errW_none : errW none = .nilIface := rfl
theorem errW_some (c : Int) : errW (some c) = .iface 0 (.int .i64 c) := rfl

theorem info3 : (Try.prog.info? 3).map (fun i => (i.zero, i.size, i.bytes)) = some (some (.int .i64 0), 1, 8) := by kernel_rfl
-- the values' own types

end Go.Proofs.Ytkjnjfgbffbiiaa.PFnExactTrailOf
