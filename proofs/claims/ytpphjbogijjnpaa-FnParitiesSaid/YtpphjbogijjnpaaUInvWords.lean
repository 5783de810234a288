import Derived.Test.YtpphjbogijjnpaaUInv
import Derived.Test.YtpphjbogijjnpaaUFootNe
-- Words of the print; the theorems that this claim does not come to are left out (by vset.py).
namespace Go.Proofs.YtpphjbogijjnpaaW.PrintWords
open Go.RowKit
end Go.Proofs.YtpphjbogijjnpaaW.PrintWords
namespace Go.Proofs.YtpphjbogijjnpaaW.PrintLast
section
variable {ops : Array Oper} {a : Act} {o og : Oper} {g : Nat} {t : Tmp} {u : Bool}
end
end Go.Proofs.YtpphjbogijjnpaaW.PrintLast
