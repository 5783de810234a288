import Derived.Test.YtanohnlddaneeaaGreatDoorVFootNe
/-! ### 54. Behind orders that were drawn quietly: the same facts at the world's new name; a flat row's foot -/
-- Words of the print; the theorems that this claim does not come to are left out (by vset.py).
namespace Go.Proofs.YtanohnlddaneeaaGreatDoorW.PrintWords
open Go.RowKit
section
variable {w w' u:World} {m B g:Nat} {o:Obj} {row:Option Nat} {S:Nat→Prop} {a:Addr} {v:Value}
end
namespace Kd
section
variable {α:Type} {d:Kd α} {e base n m:Nat} {ok:Nat→Prop} {w w':World} {v:Value} {A:Option Addr} {xs:List α}
end
end Kd
end Go.Proofs.YtanohnlddaneeaaGreatDoorW.PrintWords
