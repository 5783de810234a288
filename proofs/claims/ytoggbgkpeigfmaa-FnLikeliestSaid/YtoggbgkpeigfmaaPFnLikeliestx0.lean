-- Written by a turned copy of the print (see the notes of this repo): plain functions and their walks. Lean checks it.
import Derived.Test.YtoggbgkpeigfmaaProg
import Derived.Below
import Derived.Deep.Draws
import Derived.Deep.AppendLies
import Derived.Maps.AppendAt
import Derived.OwnWalk
import Derived.Laws.BytesArg
import Derived.Laws.MakeOwn
import Derived.Laws.OwnMore
import Derived.Deep.OwnRows
import Derived.Tactics
import Derived.Lib.ConvBytes
import Derived.Laws.Slices
import Derived.WalkKit
import Derived.KernelRfl
import Derived.RowKit3
import Derived.Deep.LoopGhost
import Derived.Deep.QuietTactic
import Derived.BigQuiet
import Derived.WideLaws
import Derived.Deep.DeepCutAuto
import Derived.Deep.CutBlock
import Derived.Deep.RegionHeld3
import Derived.Laws.Rows
import Derived.Lib.AppendStr
import Derived.ArgAppend
import Derived.Laws.IdiomCopy
import Derived.OrdersHeld
import Derived.Laws.BitsLemmas
import Derived.RowKit
import Derived.Lib.OthersKept
import Derived.Laws.RangeAny
import Derived.LoopTactic
import Derived.Lib.SliceRun
import Derived.StillTailTactics
import Derived.Maps.OwnSet
import Derived.Deep.RegionLaw
import Derived.Test.YtoggbgkpeigfmaaVWords
import Derived.Test.YtoggbgkpeigfmaaVLast
import Derived.Test.YtoggbgkpeigfmaaVTab
import Derived.Test.YtoggbgkpeigfmaaVFour
import Derived.Test.YtoggbgkpeigfmaaVQPut
import Derived.Test.YtoggbgkpeigfmaaVApart
import Derived.Test.YtoggbgkpeigfmaaVArr
import Derived.Test.YtoggbgkpeigfmaaVZeros
import Derived.Test.YtoggbgkpeigfmaaVFoot
import Derived.Test.YtoggbgkpeigfmaaVKept
import Derived.Test.YtoggbgkpeigfmaaVShare
import Derived.Test.YtoggbgkpeigfmaaVN
import Derived.Test.YtoggbgkpeigfmaaVFootNe
import Derived.Test.YtoggbgkpeigfmaaVAt
import Derived.Test.YtoggbgkpeigfmaaVEqStruct
import Derived.Test.YtoggbgkpeigfmaaVRepsOne
import Derived.Test.YtoggbgkpeigfmaaVInv
import Derived.Test.YtoggbgkpeigfmaaVInvWords
import Derived.Test.YtoggbgkpeigfmaaVGuard
import Derived.Test.YtoggbgkpeigfmaaVNEv
import Derived.Test.YtoggbgkpeigfmaaVMore
namespace Go.Proofs.Ytoggbgkpeigfmaa.PFnLikeliest
open Go.RowKit Go.Proofs.YtoggbgkpeigfmaaW.PrintWords Go.Proofs.YtoggbgkpeigfmaaW.PrintLast Go.Proofs.YtoggbgkpeigfmaaW.PrintMore
attribute [local go_sem] max2_int min2_int max_two min_two max_three min_three max_four min_four   -- for this text's walks alone
set_option linter.unusedVariables false
set_option linter.unusedSimpArgs false



def errW : Option Int → Value
 | none => .nilIface
 | some c => .iface 0 (.int .i64 c)
theorem errW_none : errW none = .nilIface := rfl
theorem errW_some (c : Int) : errW (some c) = .iface 0 (.int .i64 c) := rfl

theorem info3 : (Try.prog.info? 3).map (fun i => (i.zero, i.size, i.bytes)) = some (some (.int .i64 0), 1, 8) := by kernel_rfl
theorem info24 : (Try.prog.info? 24).map (fun i => (i.zero, i.size, i.bytes)) = some (some (.slice none 0 0), 1, 24) := by kernel_rfl
-- the values' own types

end Go.Proofs.Ytoggbgkpeigfmaa.PFnLikeliest
