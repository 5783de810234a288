import Derived.Test.YtanohnlddaneeaaGreatDoorVN
/-! ### 52. A row that stays read whatever happens to a block (a set of blocks) doesn't lie there -/
-- Words of the print; the theorems that this claim does not come to are left out (by vset.py).
namespace Go.Proofs.YtanohnlddaneeaaGreatDoorW.PrintWords
open Go.RowKit
namespace Kd
section
variable {α:Type} {d:Kd α} {W:World} {g n:Nat} {S ok:Nat→Prop} {A:Option Addr} {ad:Addr} {xs:List α}
end
end Kd
end Go.Proofs.YtanohnlddaneeaaGreatDoorW.PrintWords
