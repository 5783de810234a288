import Derived.Test.YtanohnlddaneeaaGreatDoorVTab
/-! ### 56. Four, five, six operations that may come up next, in any order -/
-- Words of the print; the theorems that this claim does not come to are left out (by vset.py).
namespace Go.Proofs.YtanohnlddaneeaaGreatDoorW.PrintLast
section
variable {P:Program} {ops:Array Oper} {Q:Exit→Act→World→Prop} {md:Region.Mode} {S:World→Prop} {ds:List Nat} {T:Bool×List (List Nat×List Nat)}
end
end Go.Proofs.YtanohnlddaneeaaGreatDoorW.PrintLast
