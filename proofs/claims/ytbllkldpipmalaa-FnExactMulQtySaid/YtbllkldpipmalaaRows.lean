/-
  No cell of these rows narrows 'for every input' (looked for: loops, veiled, ifaces, maps, wideKeys, modest, calm, conditions, laid).
  DERIVED. THE GIVEN ROWS OF THIS SEAT. 12 by the template 'for every input the law returns true; each argument reads behind the call as it read before'; 0 by the template 'total and deterministic' (their statements: YtbllkldpipmalaaTotals.lean).
  GIVEN WITH THE SEED: the statements are not yours to turn. If you find one false, say at which input.
  Laid BY PROGRAM, IN A SANDBOX (cutbox-rows.mjs): the forced cells as the released guide's own fill.sh prints them over the translation 2f30e9ec31c99e0a… (all of the seat's roots in one cut). By AI agents, Wed Nov 11 2026. No macro, syntax, notation, axiom, sorry.
-/
import Derived.Test.YtbllkldpipmalaaChecked
import GoSem.Claim
import GoSem.ClaimJoined
import GoSem.ClaimMapViews
import Derived.JoinedTies
import Derived.KernelRfl
namespace Go.Proofs.Ytbllkldpipmalaa
/- THE CELL 'sum', in the pinned program and in every row, IS THE sha256 OF THE DUMP (.gsa) THAT YtbllkldpipmalaaProg.lean LOADS. Nothing in Lean hashes anything: it is a label: what it is worth is what the hold of that sum in a sandbox is worth. -/
noncomputable def Try.pinned : Pinned := { name := "ytbllkldpipmalaa", sum := "2f30e9ec31c99e0a0d80b02db964a71a2aa1b3c44fa9dace28afd1ac0171a704", checked := Try.checked }
namespace Rows
def none {H : Type} : Left H := { results := [], args := [] }

/-- 'laws.FnExactModemOk': WHATEVER THE INPUT: true; the input reads as it did. -/
def fnExactModemOkSpec : ChangeSpec := { name := "fnExactModemOk", fn := fun _ => fun
  | [d] => { results := [.lit (.bool true)], args := [d] }
  | _ => none }
def fnExactModemOkRow : OpenClaim := { program := "ytbllkldpipmalaa", sum := "2f30e9ec31c99e0a0d80b02db964a71a2aa1b3c44fa9dace28afd1ac0171a704", func := "loop.example/g00043/laws.FnExactModemOk", spec := "fnExactModemOk", apart := false }
def FnExactModemOkSaid : Prop := fnExactModemOkRow.holds Try.pinned (OpenSpec.ofChange fnExactModemOkSpec)

/-- ITS FALSE NEIGHBOUR: 'it returns false'. Refute it at one input. -/
def fnExactModemOkWrong : ChangeSpec := { name := "fnExactModemOk", fn := fun _ => fun
  | [d] => { results := [.lit (.bool false)], args := [d] }
  | _ => none }
def FnExactModemOkWrongFalsely : Prop := fnExactModemOkRow.holds Try.pinned (OpenSpec.ofChange fnExactModemOkWrong)

/-- 'laws.FnExactQtyOk': WHATEVER THE INPUT: true; the input reads as it did. -/
def fnExactQtyOkSpec : ChangeSpec := { name := "fnExactQtyOk", fn := fun _ => fun
  | [d] => { results := [.lit (.bool true)], args := [d] }
  | _ => none }
def fnExactQtyOkRow : OpenClaim := { program := "ytbllkldpipmalaa", sum := "2f30e9ec31c99e0a0d80b02db964a71a2aa1b3c44fa9dace28afd1ac0171a704", func := "loop.example/g00043/laws.FnExactQtyOk", spec := "fnExactQtyOk", apart := false }
def FnExactQtyOkSaid : Prop := fnExactQtyOkRow.holds Try.pinned (OpenSpec.ofChange fnExactQtyOkSpec)

/-- ITS FALSE NEIGHBOUR: 'it returns false'. Refute it at one input. -/
def fnExactQtyOkWrong : ChangeSpec := { name := "fnExactQtyOk", fn := fun _ => fun
  | [d] => { results := [.lit (.bool false)], args := [d] }
  | _ => none }
def FnExactQtyOkWrongFalsely : Prop := fnExactQtyOkRow.holds Try.pinned (OpenSpec.ofChange fnExactQtyOkWrong)

/-- 'laws.FnExactBudget': WHATEVER THE INPUT: true; the input reads as it did. -/
def fnExactBudgetSpec : ChangeSpec := { name := "fnExactBudget", fn := fun _ => fun
  | [d] => { results := [.lit (.bool true)], args := [d] }
  | _ => none }
def fnExactBudgetRow : OpenClaim := { program := "ytbllkldpipmalaa", sum := "2f30e9ec31c99e0a0d80b02db964a71a2aa1b3c44fa9dace28afd1ac0171a704", func := "loop.example/g00043/laws.FnExactBudget", spec := "fnExactBudget", apart := false }
def FnExactBudgetSaid : Prop := fnExactBudgetRow.holds Try.pinned (OpenSpec.ofChange fnExactBudgetSpec)

/-- ITS FALSE NEIGHBOUR: 'it returns false'. Refute it at one input. -/
def fnExactBudgetWrong : ChangeSpec := { name := "fnExactBudget", fn := fun _ => fun
  | [d] => { results := [.lit (.bool false)], args := [d] }
  | _ => none }
def FnExactBudgetWrongFalsely : Prop := fnExactBudgetRow.holds Try.pinned (OpenSpec.ofChange fnExactBudgetWrong)

/-- 'laws.FnExactNodeName': WHATEVER THE INPUT: true; the input reads as it did. -/
def fnExactNodeNameSpec : ChangeSpec := { name := "fnExactNodeName", fn := fun _ => fun
  | [d] => { results := [.lit (.bool true)], args := [d] }
  | _ => none }
def fnExactNodeNameRow : OpenClaim := { program := "ytbllkldpipmalaa", sum := "2f30e9ec31c99e0a0d80b02db964a71a2aa1b3c44fa9dace28afd1ac0171a704", func := "loop.example/g00043/laws.FnExactNodeName", spec := "fnExactNodeName", unfollowed := true, recurses := true, apart := false }
def FnExactNodeNameSaid : Prop := fnExactNodeNameRow.holds Try.pinned (OpenSpec.ofChange fnExactNodeNameSpec)

/-- ITS FALSE NEIGHBOUR: 'it returns false'. Refute it at one input. -/
def fnExactNodeNameWrong : ChangeSpec := { name := "fnExactNodeName", fn := fun _ => fun
  | [d] => { results := [.lit (.bool false)], args := [d] }
  | _ => none }
def FnExactNodeNameWrongFalsely : Prop := fnExactNodeNameRow.holds Try.pinned (OpenSpec.ofChange fnExactNodeNameWrong)

/-- 'laws.FnExactDropped': WHATEVER THE INPUT: true; the input reads as it did. -/
def fnExactDroppedSpec : ChangeSpec := { name := "fnExactDropped", fn := fun _ => fun
  | [d1, d2, d3] => { results := [.lit (.bool true)], args := [d1, d2, d3] }
  | _ => none }
def fnExactDroppedRow : OpenClaim := { program := "ytbllkldpipmalaa", sum := "2f30e9ec31c99e0a0d80b02db964a71a2aa1b3c44fa9dace28afd1ac0171a704", func := "loop.example/g00043/laws.FnExactDropped", spec := "fnExactDropped", apart := false }
def FnExactDroppedSaid : Prop := fnExactDroppedRow.holds Try.pinned (OpenSpec.ofChange fnExactDroppedSpec)

/-- ITS FALSE NEIGHBOUR: 'it returns false'. Refute it at one input. -/
def fnExactDroppedWrong : ChangeSpec := { name := "fnExactDropped", fn := fun _ => fun
  | [d1, d2, d3] => { results := [.lit (.bool false)], args := [d1, d2, d3] }
  | _ => none }
def FnExactDroppedWrongFalsely : Prop := fnExactDroppedRow.holds Try.pinned (OpenSpec.ofChange fnExactDroppedWrong)

/-- 'laws.FnExactWiresOk': WHATEVER THE INPUT: true; the input reads as it did. -/
def fnExactWiresOkSpec : ChangeSpec := { name := "fnExactWiresOk", fn := fun _ => fun
  | [d1, d2] => { results := [.lit (.bool true)], args := [d1, d2] }
  | _ => none }
def fnExactWiresOkRow : OpenClaim := { program := "ytbllkldpipmalaa", sum := "2f30e9ec31c99e0a0d80b02db964a71a2aa1b3c44fa9dace28afd1ac0171a704", func := "loop.example/g00043/laws.FnExactWiresOk", spec := "fnExactWiresOk", unfollowed := true, recurses := true, apart := false }
def FnExactWiresOkSaid : Prop := fnExactWiresOkRow.holds Try.pinned (OpenSpec.ofChange fnExactWiresOkSpec)

/-- ITS FALSE NEIGHBOUR: 'it returns false'. Refute it at one input. -/
def fnExactWiresOkWrong : ChangeSpec := { name := "fnExactWiresOk", fn := fun _ => fun
  | [d1, d2] => { results := [.lit (.bool false)], args := [d1, d2] }
  | _ => none }
def FnExactWiresOkWrongFalsely : Prop := fnExactWiresOkRow.holds Try.pinned (OpenSpec.ofChange fnExactWiresOkWrong)

/-- 'laws.FnExactMulQty': WHATEVER THE INPUT: true; the input reads as it did. -/
def fnExactMulQtySpec : ChangeSpec := { name := "fnExactMulQty", fn := fun _ => fun
  | [d1, d2] => { results := [.lit (.bool true)], args := [d1, d2] }
  | _ => none }
def fnExactMulQtyRow : OpenClaim := { program := "ytbllkldpipmalaa", sum := "2f30e9ec31c99e0a0d80b02db964a71a2aa1b3c44fa9dace28afd1ac0171a704", func := "loop.example/g00043/laws.FnExactMulQty", spec := "fnExactMulQty", apart := false }
def FnExactMulQtySaid : Prop := fnExactMulQtyRow.holds Try.pinned (OpenSpec.ofChange fnExactMulQtySpec)

/-- ITS FALSE NEIGHBOUR: 'it returns false'. Refute it at one input. -/
def fnExactMulQtyWrong : ChangeSpec := { name := "fnExactMulQty", fn := fun _ => fun
  | [d1, d2] => { results := [.lit (.bool false)], args := [d1, d2] }
  | _ => none }
def FnExactMulQtyWrongFalsely : Prop := fnExactMulQtyRow.holds Try.pinned (OpenSpec.ofChange fnExactMulQtyWrong)

/-- 'laws.FnExactBestRice': WHATEVER THE INPUT: true; the input reads as it did. -/
def fnExactBestRiceSpec : ChangeSpec := { name := "fnExactBestRice", fn := fun _ => fun
  | [d] => { results := [.lit (.bool true)], args := [d] }
  | _ => none }
def fnExactBestRiceRow : OpenClaim := { program := "ytbllkldpipmalaa", sum := "2f30e9ec31c99e0a0d80b02db964a71a2aa1b3c44fa9dace28afd1ac0171a704", func := "loop.example/g00043/laws.FnExactBestRice", spec := "fnExactBestRice", apart := false }
def FnExactBestRiceSaid : Prop := fnExactBestRiceRow.holds Try.pinned (OpenSpec.ofChange fnExactBestRiceSpec)

/-- ITS FALSE NEIGHBOUR: 'it returns false'. Refute it at one input. -/
def fnExactBestRiceWrong : ChangeSpec := { name := "fnExactBestRice", fn := fun _ => fun
  | [d] => { results := [.lit (.bool false)], args := [d] }
  | _ => none }
def FnExactBestRiceWrongFalsely : Prop := fnExactBestRiceRow.holds Try.pinned (OpenSpec.ofChange fnExactBestRiceWrong)

/-- 'laws.FnExactChecksOk': WHATEVER THE INPUT: true; the input reads as it did. -/
def fnExactChecksOkSpec : ChangeSpec := { name := "fnExactChecksOk", fn := fun _ => fun
  | [d1, d2] => { results := [.lit (.bool true)], args := [d1, d2] }
  | _ => none }
def fnExactChecksOkRow : OpenClaim := { program := "ytbllkldpipmalaa", sum := "2f30e9ec31c99e0a0d80b02db964a71a2aa1b3c44fa9dace28afd1ac0171a704", func := "loop.example/g00043/laws.FnExactChecksOk", spec := "fnExactChecksOk", apart := false }
def FnExactChecksOkSaid : Prop := fnExactChecksOkRow.holds Try.pinned (OpenSpec.ofChange fnExactChecksOkSpec)

/-- ITS FALSE NEIGHBOUR: 'it returns false'. Refute it at one input. -/
def fnExactChecksOkWrong : ChangeSpec := { name := "fnExactChecksOk", fn := fun _ => fun
  | [d1, d2] => { results := [.lit (.bool false)], args := [d1, d2] }
  | _ => none }
def FnExactChecksOkWrongFalsely : Prop := fnExactChecksOkRow.holds Try.pinned (OpenSpec.ofChange fnExactChecksOkWrong)

/-- 'laws.FnDropped': WHATEVER THE INPUT: true; the input reads as it did. -/
def fnDroppedSpec : ChangeSpec := { name := "fnDropped", fn := fun _ => fun
  | [d] => { results := [.lit (.bool true)], args := [d] }
  | _ => none }
def fnDroppedRow : OpenClaim := { program := "ytbllkldpipmalaa", sum := "2f30e9ec31c99e0a0d80b02db964a71a2aa1b3c44fa9dace28afd1ac0171a704", func := "loop.example/g00043/laws.FnDropped", spec := "fnDropped", apart := false }
def FnDroppedSaid : Prop := fnDroppedRow.holds Try.pinned (OpenSpec.ofChange fnDroppedSpec)

/-- ITS FALSE NEIGHBOUR: 'it returns false'. Refute it at one input. -/
def fnDroppedWrong : ChangeSpec := { name := "fnDropped", fn := fun _ => fun
  | [d] => { results := [.lit (.bool false)], args := [d] }
  | _ => none }
def FnDroppedWrongFalsely : Prop := fnDroppedRow.holds Try.pinned (OpenSpec.ofChange fnDroppedWrong)

/-- 'laws.FnExactGuess': WHATEVER THE INPUT: true; the input reads as it did. -/
def fnExactGuessSpec : ChangeSpec := { name := "fnExactGuess", fn := fun _ => fun
  | [d1, d2] => { results := [.lit (.bool true)], args := [d1, d2] }
  | _ => none }
def fnExactGuessRow : OpenClaim := { program := "ytbllkldpipmalaa", sum := "2f30e9ec31c99e0a0d80b02db964a71a2aa1b3c44fa9dace28afd1ac0171a704", func := "loop.example/g00043/laws.FnExactGuess", spec := "fnExactGuess", unfollowed := true, recurses := true, apart := false }
def FnExactGuessSaid : Prop := fnExactGuessRow.holds Try.pinned (OpenSpec.ofChange fnExactGuessSpec)

/-- ITS FALSE NEIGHBOUR: 'it returns false'. Refute it at one input. -/
def fnExactGuessWrong : ChangeSpec := { name := "fnExactGuess", fn := fun _ => fun
  | [d1, d2] => { results := [.lit (.bool false)], args := [d1, d2] }
  | _ => none }
def FnExactGuessWrongFalsely : Prop := fnExactGuessRow.holds Try.pinned (OpenSpec.ofChange fnExactGuessWrong)

/-- 'laws.FnExactUnGuess': WHATEVER THE INPUT: true; the input reads as it did. -/
def fnExactUnGuessSpec : ChangeSpec := { name := "fnExactUnGuess", fn := fun _ => fun
  | [d1, d2] => { results := [.lit (.bool true)], args := [d1, d2] }
  | _ => none }
def fnExactUnGuessRow : OpenClaim := { program := "ytbllkldpipmalaa", sum := "2f30e9ec31c99e0a0d80b02db964a71a2aa1b3c44fa9dace28afd1ac0171a704", func := "loop.example/g00043/laws.FnExactUnGuess", spec := "fnExactUnGuess", unfollowed := true, recurses := true, apart := false }
def FnExactUnGuessSaid : Prop := fnExactUnGuessRow.holds Try.pinned (OpenSpec.ofChange fnExactUnGuessSpec)

/-- ITS FALSE NEIGHBOUR: 'it returns false'. Refute it at one input. -/
def fnExactUnGuessWrong : ChangeSpec := { name := "fnExactUnGuess", fn := fun _ => fun
  | [d1, d2] => { results := [.lit (.bool false)], args := [d1, d2] }
  | _ => none }
def FnExactUnGuessWrongFalsely : Prop := fnExactUnGuessRow.holds Try.pinned (OpenSpec.ofChange fnExactUnGuessWrong)

/- THE SECOND FORM. 'bulk': how many values and letters a reading holds, each counted each time it is reached (what is shared counts as often as it is met; a slice's spare places count too). A statement '..UptoSaid' is the law's where the arguments, and the package variables that the reading takes, are together of bulk at most 1048576: NARROWER than '..Said'. Prove '..Said' where nothing that the law and all that it calls make is longer than what came in: it says more and counts as full. Else prove '..UptoSaid'. A law counts once. -/
mutual
def uptoBulk {H : Type} : DataW H → Nat
  | .lit (.string bytes) => bytes.length + 1
  | .lit _ => 1
  | .nil => 1
  | .ptr d => uptoBulk d + 1
  | .slice elems spare => uptoBulkAll elems + uptoBulkAll spare + 1
  | .agg parts => uptoBulkAll parts + 1
  | .iface _ d => uptoBulk d + 1
  | .map entries => uptoBulkEntries entries + 1
  | .held _ => 1
def uptoBulkAll {H : Type} : List (DataW H) → Nat
  | [] => 0
  | d :: r => uptoBulk d + uptoBulkAll r
def uptoBulkEntries {H : Type} : List (Lit × DataW H) → Nat
  | [] => 0
  | x :: r => uptoBulkEntry x + uptoBulkEntries r
def uptoBulkEntry {H : Type} : Lit × DataW H → Nat
  | (.string bytes, d) => bytes.length + uptoBulk d + 1
  | (_, d) => uptoBulk d + 1
 end
def uptoSmall : (H : Type) → List (DataW H) → Bool := fun _ ds => decide (uptoBulkAll ds ≤ 1048576)
def OpenSpec.upto (s : _root_.Go.ChangeSpec) : _root_.Go.OpenSpec := { _root_.Go.OpenSpec.ofChange s with cond := some uptoSmall }

/-- 'laws.FnExactModemOk', WHERE WHAT IT READS IS OF BULK AT MOST 1048576: true; the input reads as it did. -/
def fnExactModemOkUptoRow : OpenClaim := { program := "ytbllkldpipmalaa", sum := "2f30e9ec31c99e0a0d80b02db964a71a2aa1b3c44fa9dace28afd1ac0171a704", func := "loop.example/g00043/laws.FnExactModemOk", spec := "fnExactModemOk", apart := false, narrowed := true }
def FnExactModemOkUptoSaid : Prop := fnExactModemOkUptoRow.holds Try.pinned (OpenSpec.upto fnExactModemOkSpec)

/-- 'laws.FnExactQtyOk', WHERE WHAT IT READS IS OF BULK AT MOST 1048576: true; the input reads as it did. -/
def fnExactQtyOkUptoRow : OpenClaim := { program := "ytbllkldpipmalaa", sum := "2f30e9ec31c99e0a0d80b02db964a71a2aa1b3c44fa9dace28afd1ac0171a704", func := "loop.example/g00043/laws.FnExactQtyOk", spec := "fnExactQtyOk", apart := false, narrowed := true }
def FnExactQtyOkUptoSaid : Prop := fnExactQtyOkUptoRow.holds Try.pinned (OpenSpec.upto fnExactQtyOkSpec)

/-- 'laws.FnExactBudget', WHERE WHAT IT READS IS OF BULK AT MOST 1048576: true; the input reads as it did. -/
def fnExactBudgetUptoRow : OpenClaim := { program := "ytbllkldpipmalaa", sum := "2f30e9ec31c99e0a0d80b02db964a71a2aa1b3c44fa9dace28afd1ac0171a704", func := "loop.example/g00043/laws.FnExactBudget", spec := "fnExactBudget", apart := false, narrowed := true }
def FnExactBudgetUptoSaid : Prop := fnExactBudgetUptoRow.holds Try.pinned (OpenSpec.upto fnExactBudgetSpec)

/-- 'laws.FnExactNodeName', WHERE WHAT IT READS IS OF BULK AT MOST 1048576: true; the input reads as it did. -/
def fnExactNodeNameUptoRow : OpenClaim := { program := "ytbllkldpipmalaa", sum := "2f30e9ec31c99e0a0d80b02db964a71a2aa1b3c44fa9dace28afd1ac0171a704", func := "loop.example/g00043/laws.FnExactNodeName", spec := "fnExactNodeName", unfollowed := true, recurses := true, apart := false, narrowed := true }
def FnExactNodeNameUptoSaid : Prop := fnExactNodeNameUptoRow.holds Try.pinned (OpenSpec.upto fnExactNodeNameSpec)

/-- 'laws.FnExactDropped', WHERE WHAT IT READS IS OF BULK AT MOST 1048576: true; the input reads as it did. -/
def fnExactDroppedUptoRow : OpenClaim := { program := "ytbllkldpipmalaa", sum := "2f30e9ec31c99e0a0d80b02db964a71a2aa1b3c44fa9dace28afd1ac0171a704", func := "loop.example/g00043/laws.FnExactDropped", spec := "fnExactDropped", apart := false, narrowed := true }
def FnExactDroppedUptoSaid : Prop := fnExactDroppedUptoRow.holds Try.pinned (OpenSpec.upto fnExactDroppedSpec)

/-- 'laws.FnExactWiresOk', WHERE WHAT IT READS IS OF BULK AT MOST 1048576: true; the input reads as it did. -/
def fnExactWiresOkUptoRow : OpenClaim := { program := "ytbllkldpipmalaa", sum := "2f30e9ec31c99e0a0d80b02db964a71a2aa1b3c44fa9dace28afd1ac0171a704", func := "loop.example/g00043/laws.FnExactWiresOk", spec := "fnExactWiresOk", unfollowed := true, recurses := true, apart := false, narrowed := true }
def FnExactWiresOkUptoSaid : Prop := fnExactWiresOkUptoRow.holds Try.pinned (OpenSpec.upto fnExactWiresOkSpec)

/-- 'laws.FnExactMulQty', WHERE WHAT IT READS IS OF BULK AT MOST 1048576: true; the input reads as it did. -/
def fnExactMulQtyUptoRow : OpenClaim := { program := "ytbllkldpipmalaa", sum := "2f30e9ec31c99e0a0d80b02db964a71a2aa1b3c44fa9dace28afd1ac0171a704", func := "loop.example/g00043/laws.FnExactMulQty", spec := "fnExactMulQty", apart := false, narrowed := true }
def FnExactMulQtyUptoSaid : Prop := fnExactMulQtyUptoRow.holds Try.pinned (OpenSpec.upto fnExactMulQtySpec)

/-- 'laws.FnExactBestRice', WHERE WHAT IT READS IS OF BULK AT MOST 1048576: true; the input reads as it did. -/
def fnExactBestRiceUptoRow : OpenClaim := { program := "ytbllkldpipmalaa", sum := "2f30e9ec31c99e0a0d80b02db964a71a2aa1b3c44fa9dace28afd1ac0171a704", func := "loop.example/g00043/laws.FnExactBestRice", spec := "fnExactBestRice", apart := false, narrowed := true }
def FnExactBestRiceUptoSaid : Prop := fnExactBestRiceUptoRow.holds Try.pinned (OpenSpec.upto fnExactBestRiceSpec)

/-- 'laws.FnExactChecksOk', WHERE WHAT IT READS IS OF BULK AT MOST 1048576: true; the input reads as it did. -/
def fnExactChecksOkUptoRow : OpenClaim := { program := "ytbllkldpipmalaa", sum := "2f30e9ec31c99e0a0d80b02db964a71a2aa1b3c44fa9dace28afd1ac0171a704", func := "loop.example/g00043/laws.FnExactChecksOk", spec := "fnExactChecksOk", apart := false, narrowed := true }
def FnExactChecksOkUptoSaid : Prop := fnExactChecksOkUptoRow.holds Try.pinned (OpenSpec.upto fnExactChecksOkSpec)

/-- 'laws.FnDropped', WHERE WHAT IT READS IS OF BULK AT MOST 1048576: true; the input reads as it did. -/
def fnDroppedUptoRow : OpenClaim := { program := "ytbllkldpipmalaa", sum := "2f30e9ec31c99e0a0d80b02db964a71a2aa1b3c44fa9dace28afd1ac0171a704", func := "loop.example/g00043/laws.FnDropped", spec := "fnDropped", apart := false, narrowed := true }
def FnDroppedUptoSaid : Prop := fnDroppedUptoRow.holds Try.pinned (OpenSpec.upto fnDroppedSpec)

/-- 'laws.FnExactGuess', WHERE WHAT IT READS IS OF BULK AT MOST 1048576: true; the input reads as it did. -/
def fnExactGuessUptoRow : OpenClaim := { program := "ytbllkldpipmalaa", sum := "2f30e9ec31c99e0a0d80b02db964a71a2aa1b3c44fa9dace28afd1ac0171a704", func := "loop.example/g00043/laws.FnExactGuess", spec := "fnExactGuess", unfollowed := true, recurses := true, apart := false, narrowed := true }
def FnExactGuessUptoSaid : Prop := fnExactGuessUptoRow.holds Try.pinned (OpenSpec.upto fnExactGuessSpec)

/-- 'laws.FnExactUnGuess', WHERE WHAT IT READS IS OF BULK AT MOST 1048576: true; the input reads as it did. -/
def fnExactUnGuessUptoRow : OpenClaim := { program := "ytbllkldpipmalaa", sum := "2f30e9ec31c99e0a0d80b02db964a71a2aa1b3c44fa9dace28afd1ac0171a704", func := "loop.example/g00043/laws.FnExactUnGuess", spec := "fnExactUnGuess", unfollowed := true, recurses := true, apart := false, narrowed := true }
def FnExactUnGuessUptoSaid : Prop := fnExactUnGuessUptoRow.holds Try.pinned (OpenSpec.upto fnExactUnGuessSpec)

end Rows
end Go.Proofs.Ytbllkldpipmalaa
