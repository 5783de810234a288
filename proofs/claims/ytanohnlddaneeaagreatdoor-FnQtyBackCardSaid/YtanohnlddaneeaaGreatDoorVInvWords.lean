import Derived.Test.YtanohnlddaneeaaGreatDoorVInv
import Derived.Test.YtanohnlddaneeaaGreatDoorVFootNe
-- Words of the print; the theorems that this claim does not come to are left out (by vset.py).
namespace Go.Proofs.YtanohnlddaneeaaGreatDoorW.PrintWords
open Go.RowKit
end Go.Proofs.YtanohnlddaneeaaGreatDoorW.PrintWords
namespace Go.Proofs.YtanohnlddaneeaaGreatDoorW.PrintLast
section
variable {ops:Array Oper} {a:Act} {o og:Oper} {g:Nat} {t:Tmp} {u:Bool}
end
end Go.Proofs.YtanohnlddaneeaaGreatDoorW.PrintLast
