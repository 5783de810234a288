import Derived.Test.YtanohnlddaneeaaGreatDoorVWords
/-! ### 58. A guarded operation whose guard is known to want it: the same goal without the guard -/
-- Words of the print; the theorems that this claim does not come to are left out (by vset.py).
namespace Go.Proofs.YtanohnlddaneeaaGreatDoorW.PrintWords
open Go.RowKit
section
variable {P:Program} {ops:Array Oper} {rest:List Oper} {o:Oper} {a:Act} {Q:Exit→Act→World→Prop} {W:World}
end
end Go.Proofs.YtanohnlddaneeaaGreatDoorW.PrintWords
