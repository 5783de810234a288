import Derived.Test.YtieadaglkibjbaaUInv
import Derived.Test.YtieadaglkibjbaaUFootNe
-- Words of the print; the theorems that this claim does not come to are left out (by vset.py).
namespace Go.Proofs.YtieadaglkibjbaaW.PrintWords
open Go.RowKit
end Go.Proofs.YtieadaglkibjbaaW.PrintWords
namespace Go.Proofs.YtieadaglkibjbaaW.PrintLast
section
variable {ops : Array Oper} {a : Act} {o og : Oper} {g : Nat} {t : Tmp} {u : Bool}
end
end Go.Proofs.YtieadaglkibjbaaW.PrintLast
