import Derived.Test.YtckadpomhdjkhaaVInv
import Derived.Test.YtckadpomhdjkhaaVFootNe
-- Words of the print; the theorems that this claim does not come to are left out (by vset.py).
namespace Go.Proofs.YtckadpomhdjkhaaW.PrintWords
open Go.RowKit
end Go.Proofs.YtckadpomhdjkhaaW.PrintWords
namespace Go.Proofs.YtckadpomhdjkhaaW.PrintLast
section
variable {ops : Array Oper} {a : Act} {o og : Oper} {g : Nat} {t : Tmp} {u : Bool}
end
end Go.Proofs.YtckadpomhdjkhaaW.PrintLast
