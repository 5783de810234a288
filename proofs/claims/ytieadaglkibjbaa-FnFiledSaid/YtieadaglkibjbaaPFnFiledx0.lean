-- Written by a turned copy of the print (see the notes of this repo): plain functions and their walks. Lean checks it.
import Derived.Test.YtieadaglkibjbaaProg
import Derived.Below
import Derived.Deep.Draws
import Derived.Deep.AppendLies
import Derived.Maps.AppendAt
import Derived.OwnWalk
import Derived.Laws.BytesArg
import Derived.Laws.MakeOwn
import Derived.Laws.OwnMore
import Derived.Deep.OwnRows
import Derived.Tactics
import Derived.Lib.ConvBytes
import Derived.Laws.Slices
import Derived.WalkKit
import Derived.KernelRfl
import Derived.RowKit3
import Derived.Deep.LoopGhost
import Derived.Deep.QuietTactic
import Derived.BigQuiet
import Derived.WideLaws
import Derived.Deep.DeepCutAuto
import Derived.Deep.CutBlock
import Derived.Deep.RegionHeld3
import Derived.Laws.Rows
import Derived.Lib.AppendStr
import Derived.ArgAppend
import Derived.Laws.IdiomCopy
import Derived.OrdersHeld
import Derived.Laws.BitsLemmas
import Derived.RowKit
import Derived.Test.YtieadaglkibjbaaVWords
import Derived.Test.YtieadaglkibjbaaVLast
import Derived.Test.YtieadaglkibjbaaVTab
import Derived.Test.YtieadaglkibjbaaVFour
import Derived.Test.YtieadaglkibjbaaVQPut
import Derived.Test.YtieadaglkibjbaaVApart
import Derived.Test.YtieadaglkibjbaaVArr
import Derived.Test.YtieadaglkibjbaaVZeros
import Derived.Test.YtieadaglkibjbaaVFoot
import Derived.Test.YtieadaglkibjbaaVKept
import Derived.Test.YtieadaglkibjbaaVShare
import Derived.Test.YtieadaglkibjbaaVN
import Derived.Test.YtieadaglkibjbaaVFootNe
import Derived.Test.YtieadaglkibjbaaVAt
import Derived.Test.YtieadaglkibjbaaVEqStruct
import Derived.Test.YtieadaglkibjbaaVRepsOne
import Derived.Test.YtieadaglkibjbaaVInv
import Derived.Test.YtieadaglkibjbaaVInvWords
import Derived.Test.YtieadaglkibjbaaVGuard
import Derived.Test.YtieadaglkibjbaaVNEv
import Derived.Test.YtieadaglkibjbaaVMore
namespace Go.Proofs.Ytieadaglkibjbaa.PFnFiled
open Go.RowKit Go.Proofs.YtieadaglkibjbaaW.PrintWords Go.Proofs.YtieadaglkibjbaaW.PrintLast Go.Proofs.YtieadaglkibjbaaW.PrintMore
attribute [local go_sem] max2_int min2_int max_two min_two max_three min_three max_four min_four   -- for this text's walks alone
set_option linter.unusedVariables false
set_option linter.unusedSimpArgs false



def errW : Option Int → Value
  | none => .nilIface
  | some c => .iface 0 (.int .i64 c)
theorem errW_none : errW none = .nilIface := rfl
theorem errW_some (c : Int) : errW (some c) = .iface 0 (.int .i64 c) := rfl

theorem info3 : (Try.prog.info? 3).map (fun i => (i.zero, i.size, i.bytes)) = some (some (.int .i64 0), 1, 8) := by kernel_rfl
theorem info5 : (Try.prog.info? 5).map (fun i => (i.zero, i.size, i.bytes)) = some (some (.int .u8 0), 1, 1) := by kernel_rfl
-- the values' own types

end Go.Proofs.Ytieadaglkibjbaa.PFnFiled
