import Derived.Test.YtmikakdcggehcaaUInv
import Derived.Test.YtmikakdcggehcaaUFootNe
-- Words of the print; the theorems that this claim does not come to are left out (by vset.py).
namespace Go.Proofs.YtmikakdcggehcaaW.PrintWords
open Go.RowKit
end Go.Proofs.YtmikakdcggehcaaW.PrintWords
namespace Go.Proofs.YtmikakdcggehcaaW.PrintLast
section
variable {ops : Array Oper} {a : Act} {o og : Oper} {g : Nat} {t : Tmp} {u : Bool}
end
end Go.Proofs.YtmikakdcggehcaaW.PrintLast
