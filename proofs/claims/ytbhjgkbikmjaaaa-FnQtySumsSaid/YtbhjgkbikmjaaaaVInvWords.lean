import Derived.Test.YtbhjgkbikmjaaaaVInv
import Derived.Test.YtbhjgkbikmjaaaaVFootNe
-- Words of the print; the theorems that this claim does not come to are left out (by vset.py).
namespace Go.Proofs.YtbhjgkbikmjaaaaW.PrintWords
open Go.RowKit
end Go.Proofs.YtbhjgkbikmjaaaaW.PrintWords
namespace Go.Proofs.YtbhjgkbikmjaaaaW.PrintLast
section
variable {ops : Array Oper} {a : Act} {o og : Oper} {g : Nat} {t : Tmp} {u : Bool}
end
end Go.Proofs.YtbhjgkbikmjaaaaW.PrintLast
