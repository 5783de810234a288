/-
  DERIVED. GIVEN WITH THE SEED: THE CARDS: each row of YtanohnlddaneeaaDoorRows.lean that lists a variable, with what it lists TIED to the program's text (the seventh form; the later family's looks); each row that meets fmt, with fmt's text TOLD by the authors' own Lean function (tested against real Go, not proved from fmt's source: count such statements apart). THE CARD IS WHAT COUNTS. Prove the row's statement (the work); the ties are given (YtanohnlddaneeaaDoorTie.lean); close each card by the builder's one call (the guide's Derived/Test/ToyasCard.lean, 'card_holds'). Laid BY PROGRAM, IN A SANDBOX (cutbox-door.mjs). By AI agents, Wed Nov 11 2026. No macro, syntax, notation, axiom, sorry.
-/
import Derived.Test.YtanohnlddaneeaaDoorRows
import GoSem.ClaimSeven
namespace Go.Proofs.YtanohnlddaneeaaDoor
namespace Rows

/-- THE TIED CARD OF 'laws.FnExactShowQty'. -/
def fnExactShowQtyCard : Claim7 := { stood := { row := fnExactShowQtyRow, standIns := [], harness := (true, "82a710fd512172535cfcde1bc807f37602211cfb7ae441883de65bd01e062e4a"), looks := true }, kinds := [], alts := [], laidByText := true, laidKinds := [.data, .data, .data, .data, .pinned], laidTests := true, laidLooks := .later }
def FnExactShowQtyCardSaid : Prop := Claim7.holds Tryd.pinned (.plain (OpenSpec.ofChange fnExactShowQtySpec)) fnExactShowQtyCard

/-- THE TIED CARD OF 'laws.FnExactReadQty'. -/
def fnExactReadQtyCard : Claim7 := { stood := { row := fnExactReadQtyRow, standIns := [], harness := (true, "82a710fd512172535cfcde1bc807f37602211cfb7ae441883de65bd01e062e4a"), looks := true }, kinds := [], alts := [], laidByText := true, laidKinds := [.data, .data, .data, .data, .sentinel, .sentinel, .mapped, .pinned], laidTests := true, laidLooks := .later }
def FnExactReadQtyCardSaid : Prop := Claim7.holds Tryd.pinned (.plain (OpenSpec.ofChange fnExactReadQtySpec)) fnExactReadQtyCard

/-- THE SECOND FORM's CARD OF 'laws.FnExactShowQty'. -/
def fnExactShowQtyUptoCard : Claim7 := { stood := { row := fnExactShowQtyUptoRow, standIns := [], harness := (true, "82a710fd512172535cfcde1bc807f37602211cfb7ae441883de65bd01e062e4a"), looks := true }, kinds := [], alts := [], laidByText := true, laidKinds := [.data, .data, .data, .data, .pinned], laidTests := true, laidLooks := .later }
def FnExactShowQtyUptoCardSaid : Prop := Claim7.holds Tryd.pinned (.plain (OpenSpec.upto fnExactShowQtySpec)) fnExactShowQtyUptoCard

/-- THE SECOND FORM's CARD OF 'laws.FnExactReadQty'. -/
def fnExactReadQtyUptoCard : Claim7 := { stood := { row := fnExactReadQtyUptoRow, standIns := [], harness := (true, "82a710fd512172535cfcde1bc807f37602211cfb7ae441883de65bd01e062e4a"), looks := true }, kinds := [], alts := [], laidByText := true, laidKinds := [.data, .data, .data, .data, .sentinel, .sentinel, .mapped, .pinned], laidTests := true, laidLooks := .later }
def FnExactReadQtyUptoCardSaid : Prop := Claim7.holds Tryd.pinned (.plain (OpenSpec.upto fnExactReadQtySpec)) fnExactReadQtyUptoCard
end Rows
end Go.Proofs.YtanohnlddaneeaaDoor
