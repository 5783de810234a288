-- Written by a turned copy of the print (see the notes of this repo): plain functions and their walks. Lean checks it.
import Derived.Test.YtbllkldpipmalaaProg
import Derived.Below
import Derived.Deep.Draws
import Derived.Deep.AppendLies
import Derived.Maps.AppendAt
import Derived.OwnWalk
import Derived.Laws.BytesArg
import Derived.Laws.MakeOwn
import Derived.Laws.OwnMore
import Derived.Deep.OwnRows
import Derived.Tactics
import Derived.Lib.ConvBytes
import Derived.Laws.Slices
import Derived.WalkKit
import Derived.KernelRfl
import Derived.RowKit3
import Derived.Deep.LoopGhost
import Derived.Deep.QuietTactic
import Derived.BigQuiet
import Derived.WideLaws
import Derived.Deep.DeepCutAuto
import Derived.Deep.CutBlock
import Derived.Deep.RegionHeld3
import Derived.Laws.Rows
import Derived.Lib.AppendStr
import Derived.ArgAppend
import Derived.Laws.IdiomCopy
import Derived.OrdersHeld
import Derived.Laws.BitsLemmas
import Derived.RowKit
import Derived.Test.YtbllkldpipmalaaWWords
import Derived.Test.YtbllkldpipmalaaWLast
import Derived.Test.YtbllkldpipmalaaWTab
import Derived.Test.YtbllkldpipmalaaWFour
import Derived.Test.YtbllkldpipmalaaWQPut
import Derived.Test.YtbllkldpipmalaaWApart
import Derived.Test.YtbllkldpipmalaaWArr
import Derived.Test.YtbllkldpipmalaaWZeros
import Derived.Test.YtbllkldpipmalaaWFoot
import Derived.Test.YtbllkldpipmalaaWKept
import Derived.Test.YtbllkldpipmalaaWShare
import Derived.Test.YtbllkldpipmalaaWN
import Derived.Test.YtbllkldpipmalaaWFootNe
import Derived.Test.YtbllkldpipmalaaWAt
import Derived.Test.YtbllkldpipmalaaWEqStruct
import Derived.Test.YtbllkldpipmalaaWRepsOne
import Derived.Test.YtbllkldpipmalaaWInv
import Derived.Test.YtbllkldpipmalaaWInvWords
import Derived.Test.YtbllkldpipmalaaWGuard
import Derived.Test.YtbllkldpipmalaaWNEv
import Derived.Test.YtbllkldpipmalaaWMore
namespace Go.Proofs.Ytbllkldpipmalaa.PFnExactMulQty
open Go.RowKit Go.Proofs.YtbllkldpipmalaaW.PrintWords Go.Proofs.YtbllkldpipmalaaW.PrintLast Go.Proofs.YtbllkldpipmalaaW.PrintMore
attribute [local go_sem] max2_int min2_int max_two min_two max_three min_three max_four min_four   -- for this text's walks alone
set_option linter.unusedVariables false
set_option linter.unusedSimpArgs false



def errW : Option Int → Value
  | none => .nilIface
  | some c => .iface 0 (.int .i64 c)
theorem errW_none : errW none = .nilIface := rfl
theorem errW_some (c : Int) : errW (some c) = .iface 0 (.int .i64 c) := rfl

-- the values' own types

end Go.Proofs.Ytbllkldpipmalaa.PFnExactMulQty
