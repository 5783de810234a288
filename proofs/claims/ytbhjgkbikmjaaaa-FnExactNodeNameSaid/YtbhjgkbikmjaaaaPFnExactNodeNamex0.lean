-- Written by a turned copy of the print (see the notes of this repo): plain functions and their walks. Lean checks it.
import Derived.Test.YtbhjgkbikmjaaaaProg
import Derived.Below
import Derived.Deep.Draws
import Derived.Deep.AppendLies
import Derived.Maps.AppendAt
import Derived.OwnWalk
import Derived.Laws.BytesArg
import Derived.Laws.MakeOwn
import Derived.Laws.OwnMore
import Derived.Deep.OwnRows
import Derived.Tactics
import Derived.Lib.ConvBytes
import Derived.Laws.Slices
import Derived.WalkKit
import Derived.KernelRfl
import Derived.RowKit3
import Derived.Deep.LoopGhost
import Derived.Deep.QuietTactic
import Derived.BigQuiet
import Derived.WideLaws
import Derived.Deep.DeepCutAuto
import Derived.Deep.CutBlock
import Derived.Deep.RegionHeld3
import Derived.Laws.Rows
import Derived.Lib.AppendStr
import Derived.ArgAppend
import Derived.Laws.IdiomCopy
import Derived.OrdersHeld
import Derived.Laws.BitsLemmas
import Derived.RowKit
import Derived.Lib.OthersKept
import Derived.Laws.RangeAny
import Derived.LoopTactic
import Derived.Test.YtbhjgkbikmjaaaaWWords
import Derived.Test.YtbhjgkbikmjaaaaWLast
import Derived.Test.YtbhjgkbikmjaaaaWTab
import Derived.Test.YtbhjgkbikmjaaaaWFour
import Derived.Test.YtbhjgkbikmjaaaaWQPut
import Derived.Test.YtbhjgkbikmjaaaaWApart
import Derived.Test.YtbhjgkbikmjaaaaWArr
import Derived.Test.YtbhjgkbikmjaaaaWZeros
import Derived.Test.YtbhjgkbikmjaaaaWFoot
import Derived.Test.YtbhjgkbikmjaaaaWKept
import Derived.Test.YtbhjgkbikmjaaaaWShare
import Derived.Test.YtbhjgkbikmjaaaaWN
import Derived.Test.YtbhjgkbikmjaaaaWFootNe
import Derived.Test.YtbhjgkbikmjaaaaWAt
import Derived.Test.YtbhjgkbikmjaaaaWEqStruct
import Derived.Test.YtbhjgkbikmjaaaaWRepsOne
import Derived.Test.YtbhjgkbikmjaaaaWInv
import Derived.Test.YtbhjgkbikmjaaaaWInvWords
import Derived.Test.YtbhjgkbikmjaaaaWGuard
import Derived.Test.YtbhjgkbikmjaaaaWNEv
import Derived.Test.YtbhjgkbikmjaaaaWMore
namespace Go.Proofs.Ytbhjgkbikmjaaaa.PFnExactNodeName
open Go.RowKit Go.Proofs.YtbhjgkbikmjaaaaW.PrintWords Go.Proofs.YtbhjgkbikmjaaaaW.PrintLast Go.Proofs.YtbhjgkbikmjaaaaW.PrintMore
attribute [local go_sem] max2_int min2_int max_two min_two max_three min_three max_four min_four   -- for this text's walks alone
set_option linter.unusedVariables false
set_option linter.unusedSimpArgs false



def errW : Option Int → Value
  | none => .nilIface
  | some c => .iface 0 (.int .i64 c)
theorem errW_none : errW none = .nilIface := rfl
theorem errW_some (c : Int) : errW (some c) = .iface 0 (.int .i64 c) := rfl

-- the values' own types

end Go.Proofs.Ytbhjgkbikmjaaaa.PFnExactNodeName
