-- Written by a turned copy of the print (see the notes of this repo): plain functions and their walks. Lean checks it.
import Derived.Test.YtanohnlddaneeaaDoorProg
import Derived.Below
import Derived.Deep.Draws
import Derived.Deep.AppendLies
import Derived.Maps.AppendAt
import Derived.OwnWalk
import Derived.Laws.BytesArg
import Derived.Laws.MakeOwn
import Derived.Laws.OwnMore
import Derived.Deep.OwnRows
import Derived.Tactics
import Derived.Lib.ConvBytes
import Derived.Laws.Slices
import Derived.WalkKit
import Derived.KernelRfl
import Derived.RowKit3
import Derived.Deep.LoopGhost
import Derived.Deep.QuietTactic
import Derived.BigQuiet
import Derived.WideLaws
import Derived.Deep.DeepCutAuto
import Derived.Deep.CutBlock
import Derived.Deep.RegionHeld3
import Derived.Laws.Rows
import Derived.Lib.AppendStr
import Derived.ArgAppend
import Derived.Laws.IdiomCopy
import Derived.OrdersHeld
import Derived.Laws.BitsLemmas
import Derived.RowKit
import Derived.Laws.IdiomCopy
import Derived.Lib.OthersKept
import Derived.Laws.RangeAny
import Derived.LoopTactic
import Derived.Lib.SliceRun
import Derived.StillTailTactics
import Derived.Maps.OwnSet
import Derived.Deep.RegionLaw
import Derived.Test.YtanohnlddaneeaaDoorRShelf
import Derived.Lib.AppendIntMem
import Derived.Test.YtanohnlddaneeaaDoorWWords
import Derived.Test.YtanohnlddaneeaaDoorWLast
import Derived.Test.YtanohnlddaneeaaDoorWTab
import Derived.Test.YtanohnlddaneeaaDoorWFour
import Derived.Test.YtanohnlddaneeaaDoorWQPut
import Derived.Test.YtanohnlddaneeaaDoorWApart
import Derived.Test.YtanohnlddaneeaaDoorWArr
import Derived.Test.YtanohnlddaneeaaDoorWZeros
import Derived.Test.YtanohnlddaneeaaDoorWFoot
import Derived.Test.YtanohnlddaneeaaDoorWKept
import Derived.Test.YtanohnlddaneeaaDoorWShare
import Derived.Test.YtanohnlddaneeaaDoorWN
import Derived.Test.YtanohnlddaneeaaDoorWFootNe
import Derived.Test.YtanohnlddaneeaaDoorWAt
import Derived.Test.YtanohnlddaneeaaDoorWEqStruct
import Derived.Test.YtanohnlddaneeaaDoorWRepsOne
import Derived.Test.YtanohnlddaneeaaDoorWInv
import Derived.Test.YtanohnlddaneeaaDoorWInvWords
import Derived.Test.YtanohnlddaneeaaDoorWGuard
import Derived.Test.YtanohnlddaneeaaDoorWNEv
import Derived.Test.YtanohnlddaneeaaDoorWMore
namespace Go.Proofs.YtanohnlddaneeaaDoor.PFnExactReadQty
open Go.RowKit Go.Proofs.YtanohnlddaneeaaDoorW.PrintWords Go.Proofs.YtanohnlddaneeaaDoorW.PrintLast Go.Proofs.YtanohnlddaneeaaDoorW.PrintMore
attribute [local go_sem] max2_int min2_int max_two min_two max_three min_three max_four min_four   -- for this text's walks alone
set_option linter.unusedVariables false
set_option linter.unusedSimpArgs false



def errW : Option Int → Value
  | none => .nilIface
  | some c => .iface 92 (.int .i64 c)
theorem errW_none : errW none = .nilIface := rfl
theorem errW_some (c : Int) : errW (some c) = .iface 92 (.int .i64 c) := rfl

theorem info3 : (Tryd.prog.info? 3).map (fun i => (i.zero, i.size, i.bytes)) = some (some (.int .i64 0), 1, 8) := by kernel_rfl
theorem info9 : (Tryd.prog.info? 9).map (fun i => (i.zero, i.size, i.bytes)) = some (some (.string ⟨#[]⟩), 1, 16) := by kernel_rfl
-- the values' own types

end Go.Proofs.YtanohnlddaneeaaDoor.PFnExactReadQty
