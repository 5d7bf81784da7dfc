-- Written by a program for this claim (the kit's print, with contracts of ours for what it does not take).
import Derived.Test.YtflaodgdgcodlaaProg
import Derived.Below
import Derived.Deep.Draws
import Derived.Deep.AppendLies
import Derived.Maps.AppendAt
import Derived.OwnWalk
import Derived.Laws.BytesArg
import Derived.Laws.MakeOwn
import Derived.Laws.OwnMore
import Derived.Deep.OwnRows
import Derived.Tactics
import Derived.Lib.ConvBytes
import Derived.Laws.Slices
import Derived.WalkKit
import Derived.KernelRfl
import Derived.RowKit3
import Derived.Deep.LoopGhost
import Derived.Deep.QuietTactic
import Derived.BigQuiet
import Derived.WideLaws
import Derived.Deep.DeepCutAuto
import Derived.Deep.CutBlock
import Derived.Deep.RegionHeld3
import Derived.Laws.Rows
import Derived.Lib.AppendStr
import Derived.ArgAppend
import Derived.Laws.IdiomCopy
import Derived.OrdersHeld
import Derived.Laws.BitsLemmas
import Derived.RowKit
import Derived.Test.YtflaodgdgcodlaaHand
import Derived.Test.YtflaodgdgcodlaaWWords
import Derived.Test.YtflaodgdgcodlaaWLast
import Derived.Test.YtflaodgdgcodlaaWTab
import Derived.Test.YtflaodgdgcodlaaWFour
import Derived.Test.YtflaodgdgcodlaaWQPut
import Derived.Test.YtflaodgdgcodlaaWApart
import Derived.Test.YtflaodgdgcodlaaWArr
import Derived.Test.YtflaodgdgcodlaaWZeros
import Derived.Test.YtflaodgdgcodlaaWFoot
import Derived.Test.YtflaodgdgcodlaaWKept
import Derived.Test.YtflaodgdgcodlaaWShare
import Derived.Test.YtflaodgdgcodlaaWN
import Derived.Test.YtflaodgdgcodlaaWFootNe
import Derived.Test.YtflaodgdgcodlaaWAt
import Derived.Test.YtflaodgdgcodlaaWEqStruct
import Derived.Test.YtflaodgdgcodlaaWRepsOne
import Derived.Test.YtflaodgdgcodlaaWInv
import Derived.Test.YtflaodgdgcodlaaWInvWords
import Derived.Test.YtflaodgdgcodlaaWGuard
import Derived.Test.YtflaodgdgcodlaaWNEv
import Derived.Test.YtflaodgdgcodlaaWMore
namespace Go.Proofs.Ytflaodgdgcodlaa.HFnExactReplyCode
open Go.RowKit Go.Proofs.Ytflaodgdgcodlaa.Hand Go.Proofs.YtflaodgdgcodlaaW.PrintWords Go.Proofs.YtflaodgdgcodlaaW.PrintLast Go.Proofs.YtflaodgdgcodlaaW.PrintMore
attribute [local go_sem] max2_int min2_int max_two min_two max_three min_three max_four min_four   -- for this text's walks alone
set_option linter.unusedVariables false
set_option linter.unusedSimpArgs false



def errW : Option Int → Value
  | none => .nilIface
  | some c => .iface 0 (.int .i64 c)
theorem errW_none : errW none = .nilIface := rfl
theorem errW_some (c : Int) : errW (some c) = .iface 0 (.int .i64 c) := rfl

-- the values' own types

end Go.Proofs.Ytflaodgdgcodlaa.HFnExactReplyCode
