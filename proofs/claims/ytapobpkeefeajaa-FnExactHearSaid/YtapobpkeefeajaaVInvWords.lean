import Derived.Test.YtapobpkeefeajaaVInv
import Derived.Test.YtapobpkeefeajaaVFootNe
-- Words of the print; the theorems that this claim does not come to are left out (by vset.py).
namespace Go.Proofs.YtapobpkeefeajaaW.PrintWords
open Go.RowKit
end Go.Proofs.YtapobpkeefeajaaW.PrintWords
namespace Go.Proofs.YtapobpkeefeajaaW.PrintLast
section
variable {ops:Array Oper} {a:Act} {o og:Oper} {g:Nat} {t:Tmp} {u:Bool}
end
end Go.Proofs.YtapobpkeefeajaaW.PrintLast
