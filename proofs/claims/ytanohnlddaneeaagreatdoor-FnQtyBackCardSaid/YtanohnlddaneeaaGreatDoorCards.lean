/-
  DERIVED. GIVEN WITH THE SEED: THE CARDS: each row of YtanohnlddaneeaaGreatDoorRows.lean that lists a variable, with what it lists TIED to the program's text (the seventh form; the later family's looks); each row that meets fmt, with fmt's text TOLD by the authors' own Lean function (tested against real Go, not proved from fmt's source: count such statements apart). THE CARD IS WHAT COUNTS. Prove the row's statement (the work); the ties are given (YtanohnlddaneeaaGreatDoorTie.lean); close each card by the builder's one call (the guide's Derived/Test/ToyasCard.lean, 'card_holds'). Laid BY PROGRAM, IN A SANDBOX (cutbox-door.mjs). By AI agents, Wed Nov 11 2026. No macro, syntax, notation, axiom, sorry.
-/
import Derived.Test.YtanohnlddaneeaaGreatDoorRows
import GoSem.ClaimSeven
namespace Go.Proofs.YtanohnlddaneeaaGreatDoor
namespace Rows

/-- THE TIED CARD OF 'laws.FnQtyBack'. -/
def fnQtyBackCard : Claim7 := { stood := { row := fnQtyBackRow, standIns := [], harness := (true, "4e57379c7186f6ee88154bbef4d3a3f18f7a0e7e43b3511f0115a4c42a1311c5"), looks := true }, kinds := [], alts := [], laidByText := true, laidKinds := [.data, .data, .data, .data, .sentinel, .sentinel, .mapped, .pinned], laidTests := true, laidLooks := .later }
def FnQtyBackCardSaid : Prop := Claim7.holds Tryz.pinned (.plain (OpenSpec.ofChange fnQtyBackSpec)) fnQtyBackCard

/-- THE SECOND FORM's CARD OF 'laws.FnQtyBack'. -/
def fnQtyBackUptoCard : Claim7 := { stood := { row := fnQtyBackUptoRow, standIns := [], harness := (true, "4e57379c7186f6ee88154bbef4d3a3f18f7a0e7e43b3511f0115a4c42a1311c5"), looks := true }, kinds := [], alts := [], laidByText := true, laidKinds := [.data, .data, .data, .data, .sentinel, .sentinel, .mapped, .pinned], laidTests := true, laidLooks := .later }
def FnQtyBackUptoCardSaid : Prop := Claim7.holds Tryz.pinned (.plain (OpenSpec.upto fnQtyBackSpec)) fnQtyBackUptoCard
end Rows
end Go.Proofs.YtanohnlddaneeaaGreatDoor
