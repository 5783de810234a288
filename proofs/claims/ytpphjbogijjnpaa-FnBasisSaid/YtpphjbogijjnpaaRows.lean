/-
  No cell of these rows narrows 'for every input' (looked for: loops, veiled, ifaces, maps, wideKeys, modest, calm, conditions, laid).
  DERIVED. THE GIVEN ROWS OF THIS SEAT. 6 by the template 'for every input the law returns true; each argument reads behind the call as it read before'; 0 by the template 'total and deterministic' (their statements: YtpphjbogijjnpaaTotals.lean).
  GIVEN WITH THE SEED: the statements are not yours to turn. If you find one false, say at which input.
  Laid BY PROGRAM, IN A SANDBOX (cutbox-rows.mjs): the forced cells as the released guide's own fill.sh prints them over the translation 6ba0fb4ebaa01234… (all of the seat's roots in one cut). By AI agents, Wed Nov 11 2026. No macro, syntax, notation, axiom, sorry.
-/
import Derived.Test.YtpphjbogijjnpaaChecked
import GoSem.Claim
import GoSem.ClaimJoined
import GoSem.ClaimMapViews
import Derived.JoinedTies
import Derived.KernelRfl
namespace Go.Proofs.Ytpphjbogijjnpaa
/- THE CELL 'sum', in the pinned program and in every row, IS THE sha256 OF THE DUMP (.gsa) THAT YtpphjbogijjnpaaProg.lean LOADS. Nothing in Lean hashes anything: it is a label: what it is worth is what the hold of that sum in a sandbox is worth. -/
noncomputable def Try.pinned : Pinned := { name := "ytpphjbogijjnpaa", sum := "6ba0fb4ebaa012340657e2d7286fd7a46d6f925d60237c9d454f8bcdbc028ffc", checked := Try.checked }
namespace Rows
def none {H : Type} : Left H := { results := [], args := [] }

/-- 'laws.FnExactFails': WHATEVER THE INPUT: true; the input reads as it did. -/
def fnExactFailsSpec : ChangeSpec := { name := "fnExactFails", fn := fun _ => fun
  | [d1, d2] => { results := [.lit (.bool true)], args := [d1, d2] }
  | _ => none }
def fnExactFailsRow : OpenClaim := { program := "ytpphjbogijjnpaa", sum := "6ba0fb4ebaa012340657e2d7286fd7a46d6f925d60237c9d454f8bcdbc028ffc", func := "loop.example/g00043/laws.FnExactFails", spec := "fnExactFails", apart := false }
def FnExactFailsSaid : Prop := fnExactFailsRow.holds Try.pinned (OpenSpec.ofChange fnExactFailsSpec)

/-- ITS FALSE NEIGHBOUR: 'it returns false'. Refute it at one input. -/
def fnExactFailsWrong : ChangeSpec := { name := "fnExactFails", fn := fun _ => fun
  | [d1, d2] => { results := [.lit (.bool false)], args := [d1, d2] }
  | _ => none }
def FnExactFailsWrongFalsely : Prop := fnExactFailsRow.holds Try.pinned (OpenSpec.ofChange fnExactFailsWrong)

/-- 'laws.FnExactTurnBits': WHATEVER THE INPUT: true; the input reads as it did. -/
def fnExactTurnBitsSpec : ChangeSpec := { name := "fnExactTurnBits", fn := fun _ => fun
  | [d1, d2, d3] => { results := [.lit (.bool true)], args := [d1, d2, d3] }
  | _ => none }
def fnExactTurnBitsRow : OpenClaim := { program := "ytpphjbogijjnpaa", sum := "6ba0fb4ebaa012340657e2d7286fd7a46d6f925d60237c9d454f8bcdbc028ffc", func := "loop.example/g00043/laws.FnExactTurnBits", spec := "fnExactTurnBits", apart := false }
def FnExactTurnBitsSaid : Prop := fnExactTurnBitsRow.holds Try.pinned (OpenSpec.ofChange fnExactTurnBitsSpec)

/-- ITS FALSE NEIGHBOUR: 'it returns false'. Refute it at one input. -/
def fnExactTurnBitsWrong : ChangeSpec := { name := "fnExactTurnBits", fn := fun _ => fun
  | [d1, d2, d3] => { results := [.lit (.bool false)], args := [d1, d2, d3] }
  | _ => none }
def FnExactTurnBitsWrongFalsely : Prop := fnExactTurnBitsRow.holds Try.pinned (OpenSpec.ofChange fnExactTurnBitsWrong)

/-- 'laws.FnExactPassHints': WHATEVER THE INPUT: true; the input reads as it did. -/
def fnExactPassHintsSpec : ChangeSpec := { name := "fnExactPassHints", fn := fun _ => fun
  | [d1, d2, d3] => { results := [.lit (.bool true)], args := [d1, d2, d3] }
  | _ => none }
def fnExactPassHintsRow : OpenClaim := { program := "ytpphjbogijjnpaa", sum := "6ba0fb4ebaa012340657e2d7286fd7a46d6f925d60237c9d454f8bcdbc028ffc", func := "loop.example/g00043/laws.FnExactPassHints", spec := "fnExactPassHints", apart := false }
def FnExactPassHintsSaid : Prop := fnExactPassHintsRow.holds Try.pinned (OpenSpec.ofChange fnExactPassHintsSpec)

/-- ITS FALSE NEIGHBOUR: 'it returns false'. Refute it at one input. -/
def fnExactPassHintsWrong : ChangeSpec := { name := "fnExactPassHints", fn := fun _ => fun
  | [d1, d2, d3] => { results := [.lit (.bool false)], args := [d1, d2, d3] }
  | _ => none }
def FnExactPassHintsWrongFalsely : Prop := fnExactPassHintsRow.holds Try.pinned (OpenSpec.ofChange fnExactPassHintsWrong)

/-- 'laws.FnParities': WHATEVER THE INPUT: true; the input reads as it did. -/
def fnParitiesSpec : ChangeSpec := { name := "fnParities", fn := fun _ => fun
  | [d] => { results := [.lit (.bool true)], args := [d] }
  | _ => none }
def fnParitiesRow : OpenClaim := { program := "ytpphjbogijjnpaa", sum := "6ba0fb4ebaa012340657e2d7286fd7a46d6f925d60237c9d454f8bcdbc028ffc", func := "loop.example/g00043/laws.FnParities", spec := "fnParities", apart := false }
def FnParitiesSaid : Prop := fnParitiesRow.holds Try.pinned (OpenSpec.ofChange fnParitiesSpec)

/-- ITS FALSE NEIGHBOUR: 'it returns false'. Refute it at one input. -/
def fnParitiesWrong : ChangeSpec := { name := "fnParities", fn := fun _ => fun
  | [d] => { results := [.lit (.bool false)], args := [d] }
  | _ => none }
def FnParitiesWrongFalsely : Prop := fnParitiesRow.holds Try.pinned (OpenSpec.ofChange fnParitiesWrong)

/-- 'laws.FnExactBasis': WHATEVER THE INPUT: true; the input reads as it did. -/
def fnExactBasisSpec : ChangeSpec := { name := "fnExactBasis", fn := fun _ => fun
  | [d1, d2] => { results := [.lit (.bool true)], args := [d1, d2] }
  | _ => none }
def fnExactBasisRow : OpenClaim := { program := "ytpphjbogijjnpaa", sum := "6ba0fb4ebaa012340657e2d7286fd7a46d6f925d60237c9d454f8bcdbc028ffc", func := "loop.example/g00043/laws.FnExactBasis", spec := "fnExactBasis", apart := false }
def FnExactBasisSaid : Prop := fnExactBasisRow.holds Try.pinned (OpenSpec.ofChange fnExactBasisSpec)

/-- ITS FALSE NEIGHBOUR: 'it returns false'. Refute it at one input. -/
def fnExactBasisWrong : ChangeSpec := { name := "fnExactBasis", fn := fun _ => fun
  | [d1, d2] => { results := [.lit (.bool false)], args := [d1, d2] }
  | _ => none }
def FnExactBasisWrongFalsely : Prop := fnExactBasisRow.holds Try.pinned (OpenSpec.ofChange fnExactBasisWrong)

/-- 'laws.FnBasis': WHATEVER THE INPUT: true; the input reads as it did. -/
def fnBasisSpec : ChangeSpec := { name := "fnBasis", fn := fun _ => fun
  | [d] => { results := [.lit (.bool true)], args := [d] }
  | _ => none }
def fnBasisRow : OpenClaim := { program := "ytpphjbogijjnpaa", sum := "6ba0fb4ebaa012340657e2d7286fd7a46d6f925d60237c9d454f8bcdbc028ffc", func := "loop.example/g00043/laws.FnBasis", spec := "fnBasis", apart := false }
def FnBasisSaid : Prop := fnBasisRow.holds Try.pinned (OpenSpec.ofChange fnBasisSpec)

/-- ITS FALSE NEIGHBOUR: 'it returns false'. Refute it at one input. -/
def fnBasisWrong : ChangeSpec := { name := "fnBasis", fn := fun _ => fun
  | [d] => { results := [.lit (.bool false)], args := [d] }
  | _ => none }
def FnBasisWrongFalsely : Prop := fnBasisRow.holds Try.pinned (OpenSpec.ofChange fnBasisWrong)

/- THE SECOND FORM. 'bulk': how many values and letters a reading holds, each counted each time it is reached (what is shared counts as often as it is met; a slice's spare places count too). A statement '..UptoSaid' is the law's where the arguments, and the package variables that the reading takes, are together of bulk at most 1048576: NARROWER than '..Said'. Prove '..Said' where nothing that the law and all that it calls make is longer than what came in: it says more and counts as full. Else prove '..UptoSaid'. A law counts once. -/
mutual
def uptoBulk {H : Type} : DataW H → Nat
  | .lit (.string bytes) => bytes.length + 1
  | .lit _ => 1
  | .nil => 1
  | .ptr d => uptoBulk d + 1
  | .slice elems spare => uptoBulkAll elems + uptoBulkAll spare + 1
  | .agg parts => uptoBulkAll parts + 1
  | .iface _ d => uptoBulk d + 1
  | .map entries => uptoBulkEntries entries + 1
  | .held _ => 1
def uptoBulkAll {H : Type} : List (DataW H) → Nat
  | [] => 0
  | d :: r => uptoBulk d + uptoBulkAll r
def uptoBulkEntries {H : Type} : List (Lit × DataW H) → Nat
  | [] => 0
  | x :: r => uptoBulkEntry x + uptoBulkEntries r
def uptoBulkEntry {H : Type} : Lit × DataW H → Nat
  | (.string bytes, d) => bytes.length + uptoBulk d + 1
  | (_, d) => uptoBulk d + 1
 end
def uptoSmall : (H : Type) → List (DataW H) → Bool := fun _ ds => decide (uptoBulkAll ds ≤ 1048576)
def OpenSpec.upto (s : _root_.Go.ChangeSpec) : _root_.Go.OpenSpec := { _root_.Go.OpenSpec.ofChange s with cond := some uptoSmall }

/-- 'laws.FnExactFails', WHERE WHAT IT READS IS OF BULK AT MOST 1048576: true; the input reads as it did. -/
def fnExactFailsUptoRow : OpenClaim := { program := "ytpphjbogijjnpaa", sum := "6ba0fb4ebaa012340657e2d7286fd7a46d6f925d60237c9d454f8bcdbc028ffc", func := "loop.example/g00043/laws.FnExactFails", spec := "fnExactFails", apart := false, narrowed := true }
def FnExactFailsUptoSaid : Prop := fnExactFailsUptoRow.holds Try.pinned (OpenSpec.upto fnExactFailsSpec)

/-- 'laws.FnExactTurnBits', WHERE WHAT IT READS IS OF BULK AT MOST 1048576: true; the input reads as it did. -/
def fnExactTurnBitsUptoRow : OpenClaim := { program := "ytpphjbogijjnpaa", sum := "6ba0fb4ebaa012340657e2d7286fd7a46d6f925d60237c9d454f8bcdbc028ffc", func := "loop.example/g00043/laws.FnExactTurnBits", spec := "fnExactTurnBits", apart := false, narrowed := true }
def FnExactTurnBitsUptoSaid : Prop := fnExactTurnBitsUptoRow.holds Try.pinned (OpenSpec.upto fnExactTurnBitsSpec)

/-- 'laws.FnExactPassHints', WHERE WHAT IT READS IS OF BULK AT MOST 1048576: true; the input reads as it did. -/
def fnExactPassHintsUptoRow : OpenClaim := { program := "ytpphjbogijjnpaa", sum := "6ba0fb4ebaa012340657e2d7286fd7a46d6f925d60237c9d454f8bcdbc028ffc", func := "loop.example/g00043/laws.FnExactPassHints", spec := "fnExactPassHints", apart := false, narrowed := true }
def FnExactPassHintsUptoSaid : Prop := fnExactPassHintsUptoRow.holds Try.pinned (OpenSpec.upto fnExactPassHintsSpec)

/-- 'laws.FnParities', WHERE WHAT IT READS IS OF BULK AT MOST 1048576: true; the input reads as it did. -/
def fnParitiesUptoRow : OpenClaim := { program := "ytpphjbogijjnpaa", sum := "6ba0fb4ebaa012340657e2d7286fd7a46d6f925d60237c9d454f8bcdbc028ffc", func := "loop.example/g00043/laws.FnParities", spec := "fnParities", apart := false, narrowed := true }
def FnParitiesUptoSaid : Prop := fnParitiesUptoRow.holds Try.pinned (OpenSpec.upto fnParitiesSpec)

/-- 'laws.FnExactBasis', WHERE WHAT IT READS IS OF BULK AT MOST 1048576: true; the input reads as it did. -/
def fnExactBasisUptoRow : OpenClaim := { program := "ytpphjbogijjnpaa", sum := "6ba0fb4ebaa012340657e2d7286fd7a46d6f925d60237c9d454f8bcdbc028ffc", func := "loop.example/g00043/laws.FnExactBasis", spec := "fnExactBasis", apart := false, narrowed := true }
def FnExactBasisUptoSaid : Prop := fnExactBasisUptoRow.holds Try.pinned (OpenSpec.upto fnExactBasisSpec)

/-- 'laws.FnBasis', WHERE WHAT IT READS IS OF BULK AT MOST 1048576: true; the input reads as it did. -/
def fnBasisUptoRow : OpenClaim := { program := "ytpphjbogijjnpaa", sum := "6ba0fb4ebaa012340657e2d7286fd7a46d6f925d60237c9d454f8bcdbc028ffc", func := "loop.example/g00043/laws.FnBasis", spec := "fnBasis", apart := false, narrowed := true }
def FnBasisUptoSaid : Prop := fnBasisUptoRow.holds Try.pinned (OpenSpec.upto fnBasisSpec)

end Rows
end Go.Proofs.Ytpphjbogijjnpaa
