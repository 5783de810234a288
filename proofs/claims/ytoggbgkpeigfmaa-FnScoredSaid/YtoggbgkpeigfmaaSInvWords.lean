import Derived.Test.YtoggbgkpeigfmaaSInv
import Derived.Test.YtoggbgkpeigfmaaSFootNe
-- Words of the print; the theorems that this claim does not come to are left out (by vset.py).
namespace Go.Proofs.YtoggbgkpeigfmaaW.PrintWords
open Go.RowKit
end Go.Proofs.YtoggbgkpeigfmaaW.PrintWords
namespace Go.Proofs.YtoggbgkpeigfmaaW.PrintLast
section
variable {ops : Array Oper} {a : Act} {o og : Oper} {g : Nat} {t : Tmp} {u : Bool}
end
end Go.Proofs.YtoggbgkpeigfmaaW.PrintLast
