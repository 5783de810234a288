import Derived.Test.YtapobpkeefeajaaVWords
import Derived.Laws.StructEq
/-! ### 53. '==' of structs as_ one Bool -/
-- Words of the print; the theorems that this claim does not come to are left out (by vset.py).
namespace Go.Proofs.YtapobpkeefeajaaW.PrintWords
open Go.RowKit
section
variable {P:Program} {d:Nat} {xs ys:Array Value} {f:Field} {fs:List Field} {a b:Value} {r s:Bool} {w:World}
end
end Go.Proofs.YtapobpkeefeajaaW.PrintWords
