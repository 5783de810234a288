-- Written by a turned copy of the print (see the notes of this repo): plain functions and their walks. Lean checks it.
import Derived.Test.YtnmglbdhnegebaaProg
import Derived.Below
import Derived.Deep.Draws
import Derived.Deep.AppendLies
import Derived.Maps.AppendAt
import Derived.OwnWalk
import Derived.Laws.BytesArg
import Derived.Laws.MakeOwn
import Derived.Laws.OwnMore
import Derived.Deep.OwnRows
import Derived.Tactics
import Derived.Lib.ConvBytes
import Derived.Laws.Slices
import Derived.WalkKit
import Derived.KernelRfl
import Derived.RowKit3
import Derived.Deep.LoopGhost
import Derived.Deep.QuietTactic
import Derived.BigQuiet
import Derived.WideLaws
import Derived.Deep.DeepCutAuto
import Derived.Deep.CutBlock
import Derived.Deep.RegionHeld3
import Derived.Laws.Rows
import Derived.Lib.AppendStr
import Derived.ArgAppend
import Derived.Laws.IdiomCopy
import Derived.OrdersHeld
import Derived.Laws.BitsLemmas
import Derived.RowKit
import Derived.Test.YtnmglbdhnegebaaWWords
import Derived.Test.YtnmglbdhnegebaaWLast
import Derived.Test.YtnmglbdhnegebaaWTab
import Derived.Test.YtnmglbdhnegebaaWFour
import Derived.Test.YtnmglbdhnegebaaWQPut
import Derived.Test.YtnmglbdhnegebaaWApart
import Derived.Test.YtnmglbdhnegebaaWArr
import Derived.Test.YtnmglbdhnegebaaWZeros
import Derived.Test.YtnmglbdhnegebaaWFoot
import Derived.Test.YtnmglbdhnegebaaWKept
import Derived.Test.YtnmglbdhnegebaaWShare
import Derived.Test.YtnmglbdhnegebaaWN
import Derived.Test.YtnmglbdhnegebaaWFootNe
import Derived.Test.YtnmglbdhnegebaaWAt
import Derived.Test.YtnmglbdhnegebaaWEqStruct
import Derived.Test.YtnmglbdhnegebaaWRepsOne
import Derived.Test.YtnmglbdhnegebaaWInv
import Derived.Test.YtnmglbdhnegebaaWInvWords
import Derived.Test.YtnmglbdhnegebaaWGuard
import Derived.Test.YtnmglbdhnegebaaWNEv
import Derived.Test.YtnmglbdhnegebaaWMore
namespace Go.Proofs.Ytnmglbdhnegebaa.PFnExactAddQty
open Go.RowKit Go.Proofs.YtnmglbdhnegebaaW.PrintWords Go.Proofs.YtnmglbdhnegebaaW.PrintLast Go.Proofs.YtnmglbdhnegebaaW.PrintMore
attribute [local go_sem] max2_int min2_int max_two min_two max_three min_three max_four min_four   -- for this text's walks alone
set_option linter.unusedVariables false
set_option linter.unusedSimpArgs false



def errW : Option Int → Value
  | none => .nilIface
  | some c => .iface 0 (.int .i64 c)
theorem errW_none : errW none = .nilIface := rfl
theorem errW_some (c : Int) : errW (some c) = .iface 0 (.int .i64 c) := rfl

-- the values' own types

end Go.Proofs.Ytnmglbdhnegebaa.PFnExactAddQty
