-- Written by a turned copy of the print (see the notes of this repo): plain functions and their walks. Lean checks it.
import Derived.Test.YtanohnlddaneeaaGreatDoorProg
import Derived.Below
import Derived.Deep.Draws
import Derived.Deep.AppendLies
import Derived.Maps.AppendAt
import Derived.OwnWalk
import Derived.Laws.BytesArg
import Derived.Laws.MakeOwn
import Derived.Laws.OwnMore
import Derived.Deep.OwnRows
import Derived.Tactics
import Derived.Lib.ConvBytes
import Derived.Laws.Slices
import Derived.WalkKit
import Derived.KernelRfl
import Derived.RowKit3
import Derived.Deep.LoopGhost
import Derived.Deep.QuietTactic
import Derived.BigQuiet
import Derived.WideLaws
import Derived.Deep.DeepCutAuto
import Derived.Deep.CutBlock
import Derived.Deep.RegionHeld3
import Derived.Laws.Rows
import Derived.Lib.AppendStr
import Derived.ArgAppend
import Derived.Laws.IdiomCopy
import Derived.OrdersHeld
import Derived.Laws.BitsLemmas
import Derived.RowKit
import Derived.Laws.IdiomCopy
import Derived.Lib.OthersKept
import Derived.Laws.RangeAny
import Derived.LoopTactic
import Derived.Lib.SliceRun
import Derived.StillTailTactics
import Derived.Maps.OwnSet
import Derived.Deep.RegionLaw
import Derived.Test.YtanohnlddaneeaaGreatDoorShelf
import Derived.Lib.AppendIntMem
import Derived.Test.YtanohnlddaneeaaGreatDoorVWords
import Derived.Test.YtanohnlddaneeaaGreatDoorVLast
import Derived.Test.YtanohnlddaneeaaGreatDoorVTab
import Derived.Test.YtanohnlddaneeaaGreatDoorVFour
import Derived.Test.YtanohnlddaneeaaGreatDoorVQPut
import Derived.Test.YtanohnlddaneeaaGreatDoorVApart
import Derived.Test.YtanohnlddaneeaaGreatDoorVArr
import Derived.Test.YtanohnlddaneeaaGreatDoorVZeros
import Derived.Test.YtanohnlddaneeaaGreatDoorVFoot
import Derived.Test.YtanohnlddaneeaaGreatDoorVKept
import Derived.Test.YtanohnlddaneeaaGreatDoorVShare
import Derived.Test.YtanohnlddaneeaaGreatDoorVN
import Derived.Test.YtanohnlddaneeaaGreatDoorVFootNe
import Derived.Test.YtanohnlddaneeaaGreatDoorVAt
import Derived.Test.YtanohnlddaneeaaGreatDoorVEqStruct
import Derived.Test.YtanohnlddaneeaaGreatDoorVRepsOne
import Derived.Test.YtanohnlddaneeaaGreatDoorVInv
import Derived.Test.YtanohnlddaneeaaGreatDoorVInvWords
import Derived.Test.YtanohnlddaneeaaGreatDoorVGuard
import Derived.Test.YtanohnlddaneeaaGreatDoorVNEv
import Derived.Test.YtanohnlddaneeaaGreatDoorVMore
namespace Go.Proofs.YtanohnlddaneeaaGreatDoor.PFnQtyBack
open Go.RowKit Go.Proofs.YtanohnlddaneeaaGreatDoorW.PrintWords Go.Proofs.YtanohnlddaneeaaGreatDoorW.PrintLast Go.Proofs.YtanohnlddaneeaaGreatDoorW.PrintMore
attribute [local go_sem] max2_int min2_int max_two min_two max_three min_three max_four min_four   -- for this text's walks alone
set_option linter.unusedVariables false
set_option linter.unusedSimpArgs false



def errW:Option Int→Value
  |none=> .nilIface
  |some c=> .iface 102 (.int .i64 c)
theorem errW_none:errW none= .nilIface:=rfl
theorem errW_some (c:Int):errW (some c)= .iface 102 (.int .i64 c):=rfl

theorem info3:(Tryz.prog.info? 3).map (fun i=>(i.zero,i.size,i.bytes))=some (some (.int .i64 0),1,8):=by kernel_rfl
theorem info5:(Tryz.prog.info? 5).map (fun i=>(i.zero,i.size,i.bytes))=some (some (.int .u8 0),1,1):=by kernel_rfl
theorem info9:(Tryz.prog.info? 9).map (fun i=>(i.zero,i.size,i.bytes))=some (some (.string ⟨#[]⟩),1,16):=by kernel_rfl
-- the values' own types

end Go.Proofs.YtanohnlddaneeaaGreatDoor.PFnQtyBack
