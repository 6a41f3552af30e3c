/- Proved: each Go function named here, called, comes to the answer of the Lean function beside it. Conditions: those that stand in each theorem. (Printed by this session's own turned copy of a printing program.) -/
import Derived.Test.YtfnkcnggbdecjaaProg
import Derived.Below
import Derived.Deep.Draws
import Derived.Deep.AppendLies
import Derived.Maps.AppendAt
import Derived.OwnWalk
import Derived.Laws.BytesArg
import Derived.Laws.MakeOwn
import Derived.Laws.OwnMore
import Derived.Deep.OwnRows
import Derived.Tactics
import Derived.Lib.ConvBytes
import Derived.Laws.Slices
import Derived.WalkKit
import Derived.KernelRfl
import Derived.RowKit3
import Derived.Deep.LoopGhost
import Derived.Deep.QuietTactic
import Derived.BigQuiet
import Derived.WideLaws
import Derived.Deep.DeepCutAuto
import Derived.Deep.CutBlock
import Derived.Deep.RegionHeld3
import Derived.Laws.Rows
import Derived.Lib.AppendStr
import Derived.ArgAppend
import Derived.Laws.IdiomCopy
import Derived.OrdersHeld
import Derived.Laws.BitsLemmas
import Derived.RowKit
import Derived.Laws.EntriesVeiled
import Derived.OneCell
import Derived.Test.YtfnkcnggbdecjaaWWords
import Derived.Test.YtfnkcnggbdecjaaWLast
import Derived.Test.YtfnkcnggbdecjaaWTab
import Derived.Test.YtfnkcnggbdecjaaWFour
import Derived.Test.YtfnkcnggbdecjaaWQPut
import Derived.Test.YtfnkcnggbdecjaaWApart
import Derived.Test.YtfnkcnggbdecjaaWArr
import Derived.Test.YtfnkcnggbdecjaaWZeros
import Derived.Test.YtfnkcnggbdecjaaWFoot
import Derived.Test.YtfnkcnggbdecjaaWKept
import Derived.Test.YtfnkcnggbdecjaaWShare
import Derived.Test.YtfnkcnggbdecjaaWN
import Derived.Test.YtfnkcnggbdecjaaWFootNe
import Derived.Test.YtfnkcnggbdecjaaWAt
import Derived.Test.YtfnkcnggbdecjaaWEqStruct
import Derived.Test.YtfnkcnggbdecjaaWRepsOne
import Derived.Test.YtfnkcnggbdecjaaWInv
import Derived.Test.YtfnkcnggbdecjaaWInvWords
import Derived.Test.YtfnkcnggbdecjaaWGuard
import Derived.Test.YtfnkcnggbdecjaaWNEv
import Derived.Test.YtfnkcnggbdecjaaWMore
namespace Go.Proofs.Ytfnkcnggbdecjaa.PFnExactMenageCount
open Go.RowKit Go.Proofs.YtfnkcnggbdecjaaW.PrintWords Go.Proofs.YtfnkcnggbdecjaaW.PrintLast Go.Proofs.YtfnkcnggbdecjaaW.PrintMore
attribute [local go_sem] max2_int min2_int max_two min_two max_three min_three max_four min_four   -- for this text's walks alone
set_option linter.unusedVariables false
set_option linter.unusedSimpArgs false



def errW : Option Int → Value
  | none => .nilIface
  | some c => .iface 0 (.int .i64 c)
theorem errW_none : errW none = .nilIface := rfl
theorem errW_some (c : Int) : errW (some c) = .iface 0 (.int .i64 c) := rfl

-- the values' own types

end Go.Proofs.Ytfnkcnggbdecjaa.PFnExactMenageCount
