/-
  No cell of these rows narrows 'for every input' (looked for: loops, veiled, ifaces, maps, wideKeys, modest, calm, conditions, laid).
  DERIVED. THE GIVEN ROWS OF THIS SEAT. 12 by the template 'for every input the law returns true; each argument reads behind the call as it read before'; 0 by the template 'total and deterministic' (their statements: YtnmglbdhnegebaaTotals.lean).
  GIVEN WITH THE SEED: the statements are not yours to turn. If you find one false, say at which input.
  Laid BY PROGRAM, IN A SANDBOX (cutbox-rows.mjs): the forced cells as the released guide's own fill.sh prints them over the translation b36eb0769d552ba2… (all of the seat's roots in one cut). By AI agents, Wed Nov 11 2026. No macro, syntax, notation, axiom, sorry.
-/
import Derived.Test.YtnmglbdhnegebaaChecked
import GoSem.Claim
import GoSem.ClaimJoined
import GoSem.ClaimMapViews
import Derived.JoinedTies
import Derived.KernelRfl
namespace Go.Proofs.Ytnmglbdhnegebaa
/- THE CELL 'sum', in the pinned program and in every row, IS THE sha256 OF THE DUMP (.gsa) THAT YtnmglbdhnegebaaProg.lean LOADS. Nothing in Lean hashes anything: it is a label: what it is worth is what the hold of that sum in a sandbox is worth. -/
noncomputable def Try.pinned : Pinned := { name := "ytnmglbdhnegebaa", sum := "b36eb0769d552ba26720dccc9c29e3c57e5bd3a46ad5fabb809f448629a293be", checked := Try.checked }
namespace Rows
def none {H : Type} : Left H := { results := [], args := [] }

/-- 'laws.FnExactAddQty': WHATEVER THE INPUT: true; the input reads as it did. -/
def fnExactAddQtySpec : ChangeSpec := { name := "fnExactAddQty", fn := fun _ => fun
  | [d1, d2] => { results := [.lit (.bool true)], args := [d1, d2] }
  | _ => none }
def fnExactAddQtyRow : OpenClaim := { program := "ytnmglbdhnegebaa", sum := "b36eb0769d552ba26720dccc9c29e3c57e5bd3a46ad5fabb809f448629a293be", func := "loop.example/g00043/laws.FnExactAddQty", spec := "fnExactAddQty", recurses := true, apart := false }
def FnExactAddQtySaid : Prop := fnExactAddQtyRow.holds Try.pinned (OpenSpec.ofChange fnExactAddQtySpec)

/-- ITS FALSE NEIGHBOUR: 'it returns false'. Refute it at one input. -/
def fnExactAddQtyWrong : ChangeSpec := { name := "fnExactAddQty", fn := fun _ => fun
  | [d1, d2] => { results := [.lit (.bool false)], args := [d1, d2] }
  | _ => none }
def FnExactAddQtyWrongFalsely : Prop := fnExactAddQtyRow.holds Try.pinned (OpenSpec.ofChange fnExactAddQtyWrong)

/-- 'laws.FnExactRice': WHATEVER THE INPUT: true; the input reads as it did. -/
def fnExactRiceSpec : ChangeSpec := { name := "fnExactRice", fn := fun _ => fun
  | [d1, d2] => { results := [.lit (.bool true)], args := [d1, d2] }
  | _ => none }
def fnExactRiceRow : OpenClaim := { program := "ytnmglbdhnegebaa", sum := "b36eb0769d552ba26720dccc9c29e3c57e5bd3a46ad5fabb809f448629a293be", func := "loop.example/g00043/laws.FnExactRice", spec := "fnExactRice", apart := false }
def FnExactRiceSaid : Prop := fnExactRiceRow.holds Try.pinned (OpenSpec.ofChange fnExactRiceSpec)

/-- ITS FALSE NEIGHBOUR: 'it returns false'. Refute it at one input. -/
def fnExactRiceWrong : ChangeSpec := { name := "fnExactRice", fn := fun _ => fun
  | [d1, d2] => { results := [.lit (.bool false)], args := [d1, d2] }
  | _ => none }
def FnExactRiceWrongFalsely : Prop := fnExactRiceRow.holds Try.pinned (OpenSpec.ofChange fnExactRiceWrong)

/-- 'laws.FnExactUnRice': WHATEVER THE INPUT: true; the input reads as it did. -/
def fnExactUnRiceSpec : ChangeSpec := { name := "fnExactUnRice", fn := fun _ => fun
  | [d1, d2, d3] => { results := [.lit (.bool true)], args := [d1, d2, d3] }
  | _ => none }
def fnExactUnRiceRow : OpenClaim := { program := "ytnmglbdhnegebaa", sum := "b36eb0769d552ba26720dccc9c29e3c57e5bd3a46ad5fabb809f448629a293be", func := "loop.example/g00043/laws.FnExactUnRice", spec := "fnExactUnRice", apart := false }
def FnExactUnRiceSaid : Prop := fnExactUnRiceRow.holds Try.pinned (OpenSpec.ofChange fnExactUnRiceSpec)

/-- ITS FALSE NEIGHBOUR: 'it returns false'. Refute it at one input. -/
def fnExactUnRiceWrong : ChangeSpec := { name := "fnExactUnRice", fn := fun _ => fun
  | [d1, d2, d3] => { results := [.lit (.bool false)], args := [d1, d2, d3] }
  | _ => none }
def FnExactUnRiceWrongFalsely : Prop := fnExactUnRiceRow.holds Try.pinned (OpenSpec.ofChange fnExactUnRiceWrong)

/-- 'laws.FnExactSpread': WHATEVER THE INPUT: true; the input reads as it did. -/
def fnExactSpreadSpec : ChangeSpec := { name := "fnExactSpread", fn := fun _ => fun
  | [d1, d2, d3, d4] => { results := [.lit (.bool true)], args := [d1, d2, d3, d4] }
  | _ => none }
def fnExactSpreadRow : OpenClaim := { program := "ytnmglbdhnegebaa", sum := "b36eb0769d552ba26720dccc9c29e3c57e5bd3a46ad5fabb809f448629a293be", func := "loop.example/g00043/laws.FnExactSpread", spec := "fnExactSpread", apart := false }
def FnExactSpreadSaid : Prop := fnExactSpreadRow.holds Try.pinned (OpenSpec.ofChange fnExactSpreadSpec)

/-- ITS FALSE NEIGHBOUR: 'it returns false'. Refute it at one input. -/
def fnExactSpreadWrong : ChangeSpec := { name := "fnExactSpread", fn := fun _ => fun
  | [d1, d2, d3, d4] => { results := [.lit (.bool false)], args := [d1, d2, d3, d4] }
  | _ => none }
def FnExactSpreadWrongFalsely : Prop := fnExactSpreadRow.holds Try.pinned (OpenSpec.ofChange fnExactSpreadWrong)

/-- 'laws.FnQtySums': WHATEVER THE INPUT: true; the input reads as it did. -/
def fnQtySumsSpec : ChangeSpec := { name := "fnQtySums", fn := fun _ => fun
  | [d] => { results := [.lit (.bool true)], args := [d] }
  | _ => none }
def fnQtySumsRow : OpenClaim := { program := "ytnmglbdhnegebaa", sum := "b36eb0769d552ba26720dccc9c29e3c57e5bd3a46ad5fabb809f448629a293be", func := "loop.example/g00043/laws.FnQtySums", spec := "fnQtySums", recurses := true, apart := false }
def FnQtySumsSaid : Prop := fnQtySumsRow.holds Try.pinned (OpenSpec.ofChange fnQtySumsSpec)

/-- ITS FALSE NEIGHBOUR: 'it returns false'. Refute it at one input. -/
def fnQtySumsWrong : ChangeSpec := { name := "fnQtySums", fn := fun _ => fun
  | [d] => { results := [.lit (.bool false)], args := [d] }
  | _ => none }
def FnQtySumsWrongFalsely : Prop := fnQtySumsRow.holds Try.pinned (OpenSpec.ofChange fnQtySumsWrong)

/-- 'laws.FnThinned': WHATEVER THE INPUT: true; the input reads as it did. -/
def fnThinnedSpec : ChangeSpec := { name := "fnThinned", fn := fun _ => fun
  | [d] => { results := [.lit (.bool true)], args := [d] }
  | _ => none }
def fnThinnedRow : OpenClaim := { program := "ytnmglbdhnegebaa", sum := "b36eb0769d552ba26720dccc9c29e3c57e5bd3a46ad5fabb809f448629a293be", func := "loop.example/g00043/laws.FnThinned", spec := "fnThinned", apart := false }
def FnThinnedSaid : Prop := fnThinnedRow.holds Try.pinned (OpenSpec.ofChange fnThinnedSpec)

/-- ITS FALSE NEIGHBOUR: 'it returns false'. Refute it at one input. -/
def fnThinnedWrong : ChangeSpec := { name := "fnThinned", fn := fun _ => fun
  | [d] => { results := [.lit (.bool false)], args := [d] }
  | _ => none }
def FnThinnedWrongFalsely : Prop := fnThinnedRow.holds Try.pinned (OpenSpec.ofChange fnThinnedWrong)

/-- 'laws.FnExactFails': WHATEVER THE INPUT: true; the input reads as it did. -/
def fnExactFailsSpec : ChangeSpec := { name := "fnExactFails", fn := fun _ => fun
  | [d1, d2] => { results := [.lit (.bool true)], args := [d1, d2] }
  | _ => none }
def fnExactFailsRow : OpenClaim := { program := "ytnmglbdhnegebaa", sum := "b36eb0769d552ba26720dccc9c29e3c57e5bd3a46ad5fabb809f448629a293be", func := "loop.example/g00043/laws.FnExactFails", spec := "fnExactFails", apart := false }
def FnExactFailsSaid : Prop := fnExactFailsRow.holds Try.pinned (OpenSpec.ofChange fnExactFailsSpec)

/-- ITS FALSE NEIGHBOUR: 'it returns false'. Refute it at one input. -/
def fnExactFailsWrong : ChangeSpec := { name := "fnExactFails", fn := fun _ => fun
  | [d1, d2] => { results := [.lit (.bool false)], args := [d1, d2] }
  | _ => none }
def FnExactFailsWrongFalsely : Prop := fnExactFailsRow.holds Try.pinned (OpenSpec.ofChange fnExactFailsWrong)

/-- 'laws.FnRiced': WHATEVER THE INPUT: true; the input reads as it did. -/
def fnRicedSpec : ChangeSpec := { name := "fnRiced", fn := fun _ => fun
  | [d] => { results := [.lit (.bool true)], args := [d] }
  | _ => none }
def fnRicedRow : OpenClaim := { program := "ytnmglbdhnegebaa", sum := "b36eb0769d552ba26720dccc9c29e3c57e5bd3a46ad5fabb809f448629a293be", func := "loop.example/g00043/laws.FnRiced", spec := "fnRiced", apart := false }
def FnRicedSaid : Prop := fnRicedRow.holds Try.pinned (OpenSpec.ofChange fnRicedSpec)

/-- ITS FALSE NEIGHBOUR: 'it returns false'. Refute it at one input. -/
def fnRicedWrong : ChangeSpec := { name := "fnRiced", fn := fun _ => fun
  | [d] => { results := [.lit (.bool false)], args := [d] }
  | _ => none }
def FnRicedWrongFalsely : Prop := fnRicedRow.holds Try.pinned (OpenSpec.ofChange fnRicedWrong)

/-- 'laws.FnExactBasis': WHATEVER THE INPUT: true; the input reads as it did. -/
def fnExactBasisSpec : ChangeSpec := { name := "fnExactBasis", fn := fun _ => fun
  | [d1, d2] => { results := [.lit (.bool true)], args := [d1, d2] }
  | _ => none }
def fnExactBasisRow : OpenClaim := { program := "ytnmglbdhnegebaa", sum := "b36eb0769d552ba26720dccc9c29e3c57e5bd3a46ad5fabb809f448629a293be", func := "loop.example/g00043/laws.FnExactBasis", spec := "fnExactBasis", apart := false }
def FnExactBasisSaid : Prop := fnExactBasisRow.holds Try.pinned (OpenSpec.ofChange fnExactBasisSpec)

/-- ITS FALSE NEIGHBOUR: 'it returns false'. Refute it at one input. -/
def fnExactBasisWrong : ChangeSpec := { name := "fnExactBasis", fn := fun _ => fun
  | [d1, d2] => { results := [.lit (.bool false)], args := [d1, d2] }
  | _ => none }
def FnExactBasisWrongFalsely : Prop := fnExactBasisRow.holds Try.pinned (OpenSpec.ofChange fnExactBasisWrong)

/-- 'laws.FnBasis': WHATEVER THE INPUT: true; the input reads as it did. -/
def fnBasisSpec : ChangeSpec := { name := "fnBasis", fn := fun _ => fun
  | [d] => { results := [.lit (.bool true)], args := [d] }
  | _ => none }
def fnBasisRow : OpenClaim := { program := "ytnmglbdhnegebaa", sum := "b36eb0769d552ba26720dccc9c29e3c57e5bd3a46ad5fabb809f448629a293be", func := "loop.example/g00043/laws.FnBasis", spec := "fnBasis", apart := false }
def FnBasisSaid : Prop := fnBasisRow.holds Try.pinned (OpenSpec.ofChange fnBasisSpec)

/-- ITS FALSE NEIGHBOUR: 'it returns false'. Refute it at one input. -/
def fnBasisWrong : ChangeSpec := { name := "fnBasis", fn := fun _ => fun
  | [d] => { results := [.lit (.bool false)], args := [d] }
  | _ => none }
def FnBasisWrongFalsely : Prop := fnBasisRow.holds Try.pinned (OpenSpec.ofChange fnBasisWrong)

/-- 'laws.FnExactTurnBits': WHATEVER THE INPUT: true; the input reads as it did. -/
def fnExactTurnBitsSpec : ChangeSpec := { name := "fnExactTurnBits", fn := fun _ => fun
  | [d1, d2, d3] => { results := [.lit (.bool true)], args := [d1, d2, d3] }
  | _ => none }
def fnExactTurnBitsRow : OpenClaim := { program := "ytnmglbdhnegebaa", sum := "b36eb0769d552ba26720dccc9c29e3c57e5bd3a46ad5fabb809f448629a293be", func := "loop.example/g00043/laws.FnExactTurnBits", spec := "fnExactTurnBits", apart := false }
def FnExactTurnBitsSaid : Prop := fnExactTurnBitsRow.holds Try.pinned (OpenSpec.ofChange fnExactTurnBitsSpec)

/-- ITS FALSE NEIGHBOUR: 'it returns false'. Refute it at one input. -/
def fnExactTurnBitsWrong : ChangeSpec := { name := "fnExactTurnBits", fn := fun _ => fun
  | [d1, d2, d3] => { results := [.lit (.bool false)], args := [d1, d2, d3] }
  | _ => none }
def FnExactTurnBitsWrongFalsely : Prop := fnExactTurnBitsRow.holds Try.pinned (OpenSpec.ofChange fnExactTurnBitsWrong)

/-- 'laws.FnExactPassHints': WHATEVER THE INPUT: true; the input reads as it did. -/
def fnExactPassHintsSpec : ChangeSpec := { name := "fnExactPassHints", fn := fun _ => fun
  | [d1, d2, d3] => { results := [.lit (.bool true)], args := [d1, d2, d3] }
  | _ => none }
def fnExactPassHintsRow : OpenClaim := { program := "ytnmglbdhnegebaa", sum := "b36eb0769d552ba26720dccc9c29e3c57e5bd3a46ad5fabb809f448629a293be", func := "loop.example/g00043/laws.FnExactPassHints", spec := "fnExactPassHints", apart := false }
def FnExactPassHintsSaid : Prop := fnExactPassHintsRow.holds Try.pinned (OpenSpec.ofChange fnExactPassHintsSpec)

/-- ITS FALSE NEIGHBOUR: 'it returns false'. Refute it at one input. -/
def fnExactPassHintsWrong : ChangeSpec := { name := "fnExactPassHints", fn := fun _ => fun
  | [d1, d2, d3] => { results := [.lit (.bool false)], args := [d1, d2, d3] }
  | _ => none }
def FnExactPassHintsWrongFalsely : Prop := fnExactPassHintsRow.holds Try.pinned (OpenSpec.ofChange fnExactPassHintsWrong)

/- THE SECOND FORM. 'bulk': how many values and letters a reading holds, each counted each time it is reached (what is shared counts as often as it is met; a slice's spare places count too). A statement '..UptoSaid' is the law's where the arguments, and the package variables that the reading takes, are together of bulk at most 1048576: NARROWER than '..Said'. Prove '..Said' where nothing that the law and all that it calls make is longer than what came in: it says more and counts as full. Else prove '..UptoSaid'. A law counts once. -/
mutual
def uptoBulk {H : Type} : DataW H → Nat
  | .lit (.string bytes) => bytes.length + 1
  | .lit _ => 1
  | .nil => 1
  | .ptr d => uptoBulk d + 1
  | .slice elems spare => uptoBulkAll elems + uptoBulkAll spare + 1
  | .agg parts => uptoBulkAll parts + 1
  | .iface _ d => uptoBulk d + 1
  | .map entries => uptoBulkEntries entries + 1
  | .held _ => 1
def uptoBulkAll {H : Type} : List (DataW H) → Nat
  | [] => 0
  | d :: r => uptoBulk d + uptoBulkAll r
def uptoBulkEntries {H : Type} : List (Lit × DataW H) → Nat
  | [] => 0
  | x :: r => uptoBulkEntry x + uptoBulkEntries r
def uptoBulkEntry {H : Type} : Lit × DataW H → Nat
  | (.string bytes, d) => bytes.length + uptoBulk d + 1
  | (_, d) => uptoBulk d + 1
 end
def uptoSmall : (H : Type) → List (DataW H) → Bool := fun _ ds => decide (uptoBulkAll ds ≤ 1048576)
def OpenSpec.upto (s : _root_.Go.ChangeSpec) : _root_.Go.OpenSpec := { _root_.Go.OpenSpec.ofChange s with cond := some uptoSmall }

/-- 'laws.FnExactAddQty', WHERE WHAT IT READS IS OF BULK AT MOST 1048576: true; the input reads as it did. -/
def fnExactAddQtyUptoRow : OpenClaim := { program := "ytnmglbdhnegebaa", sum := "b36eb0769d552ba26720dccc9c29e3c57e5bd3a46ad5fabb809f448629a293be", func := "loop.example/g00043/laws.FnExactAddQty", spec := "fnExactAddQty", recurses := true, apart := false, narrowed := true }
def FnExactAddQtyUptoSaid : Prop := fnExactAddQtyUptoRow.holds Try.pinned (OpenSpec.upto fnExactAddQtySpec)

/-- 'laws.FnExactRice', WHERE WHAT IT READS IS OF BULK AT MOST 1048576: true; the input reads as it did. -/
def fnExactRiceUptoRow : OpenClaim := { program := "ytnmglbdhnegebaa", sum := "b36eb0769d552ba26720dccc9c29e3c57e5bd3a46ad5fabb809f448629a293be", func := "loop.example/g00043/laws.FnExactRice", spec := "fnExactRice", apart := false, narrowed := true }
def FnExactRiceUptoSaid : Prop := fnExactRiceUptoRow.holds Try.pinned (OpenSpec.upto fnExactRiceSpec)

/-- 'laws.FnExactUnRice', WHERE WHAT IT READS IS OF BULK AT MOST 1048576: true; the input reads as it did. -/
def fnExactUnRiceUptoRow : OpenClaim := { program := "ytnmglbdhnegebaa", sum := "b36eb0769d552ba26720dccc9c29e3c57e5bd3a46ad5fabb809f448629a293be", func := "loop.example/g00043/laws.FnExactUnRice", spec := "fnExactUnRice", apart := false, narrowed := true }
def FnExactUnRiceUptoSaid : Prop := fnExactUnRiceUptoRow.holds Try.pinned (OpenSpec.upto fnExactUnRiceSpec)

/-- 'laws.FnExactSpread', WHERE WHAT IT READS IS OF BULK AT MOST 1048576: true; the input reads as it did. -/
def fnExactSpreadUptoRow : OpenClaim := { program := "ytnmglbdhnegebaa", sum := "b36eb0769d552ba26720dccc9c29e3c57e5bd3a46ad5fabb809f448629a293be", func := "loop.example/g00043/laws.FnExactSpread", spec := "fnExactSpread", apart := false, narrowed := true }
def FnExactSpreadUptoSaid : Prop := fnExactSpreadUptoRow.holds Try.pinned (OpenSpec.upto fnExactSpreadSpec)

/-- 'laws.FnQtySums', WHERE WHAT IT READS IS OF BULK AT MOST 1048576: true; the input reads as it did. -/
def fnQtySumsUptoRow : OpenClaim := { program := "ytnmglbdhnegebaa", sum := "b36eb0769d552ba26720dccc9c29e3c57e5bd3a46ad5fabb809f448629a293be", func := "loop.example/g00043/laws.FnQtySums", spec := "fnQtySums", recurses := true, apart := false, narrowed := true }
def FnQtySumsUptoSaid : Prop := fnQtySumsUptoRow.holds Try.pinned (OpenSpec.upto fnQtySumsSpec)

/-- 'laws.FnThinned', WHERE WHAT IT READS IS OF BULK AT MOST 1048576: true; the input reads as it did. -/
def fnThinnedUptoRow : OpenClaim := { program := "ytnmglbdhnegebaa", sum := "b36eb0769d552ba26720dccc9c29e3c57e5bd3a46ad5fabb809f448629a293be", func := "loop.example/g00043/laws.FnThinned", spec := "fnThinned", apart := false, narrowed := true }
def FnThinnedUptoSaid : Prop := fnThinnedUptoRow.holds Try.pinned (OpenSpec.upto fnThinnedSpec)

/-- 'laws.FnExactFails', WHERE WHAT IT READS IS OF BULK AT MOST 1048576: true; the input reads as it did. -/
def fnExactFailsUptoRow : OpenClaim := { program := "ytnmglbdhnegebaa", sum := "b36eb0769d552ba26720dccc9c29e3c57e5bd3a46ad5fabb809f448629a293be", func := "loop.example/g00043/laws.FnExactFails", spec := "fnExactFails", apart := false, narrowed := true }
def FnExactFailsUptoSaid : Prop := fnExactFailsUptoRow.holds Try.pinned (OpenSpec.upto fnExactFailsSpec)

/-- 'laws.FnRiced', WHERE WHAT IT READS IS OF BULK AT MOST 1048576: true; the input reads as it did. -/
def fnRicedUptoRow : OpenClaim := { program := "ytnmglbdhnegebaa", sum := "b36eb0769d552ba26720dccc9c29e3c57e5bd3a46ad5fabb809f448629a293be", func := "loop.example/g00043/laws.FnRiced", spec := "fnRiced", apart := false, narrowed := true }
def FnRicedUptoSaid : Prop := fnRicedUptoRow.holds Try.pinned (OpenSpec.upto fnRicedSpec)

/-- 'laws.FnExactBasis', WHERE WHAT IT READS IS OF BULK AT MOST 1048576: true; the input reads as it did. -/
def fnExactBasisUptoRow : OpenClaim := { program := "ytnmglbdhnegebaa", sum := "b36eb0769d552ba26720dccc9c29e3c57e5bd3a46ad5fabb809f448629a293be", func := "loop.example/g00043/laws.FnExactBasis", spec := "fnExactBasis", apart := false, narrowed := true }
def FnExactBasisUptoSaid : Prop := fnExactBasisUptoRow.holds Try.pinned (OpenSpec.upto fnExactBasisSpec)

/-- 'laws.FnBasis', WHERE WHAT IT READS IS OF BULK AT MOST 1048576: true; the input reads as it did. -/
def fnBasisUptoRow : OpenClaim := { program := "ytnmglbdhnegebaa", sum := "b36eb0769d552ba26720dccc9c29e3c57e5bd3a46ad5fabb809f448629a293be", func := "loop.example/g00043/laws.FnBasis", spec := "fnBasis", apart := false, narrowed := true }
def FnBasisUptoSaid : Prop := fnBasisUptoRow.holds Try.pinned (OpenSpec.upto fnBasisSpec)

/-- 'laws.FnExactTurnBits', WHERE WHAT IT READS IS OF BULK AT MOST 1048576: true; the input reads as it did. -/
def fnExactTurnBitsUptoRow : OpenClaim := { program := "ytnmglbdhnegebaa", sum := "b36eb0769d552ba26720dccc9c29e3c57e5bd3a46ad5fabb809f448629a293be", func := "loop.example/g00043/laws.FnExactTurnBits", spec := "fnExactTurnBits", apart := false, narrowed := true }
def FnExactTurnBitsUptoSaid : Prop := fnExactTurnBitsUptoRow.holds Try.pinned (OpenSpec.upto fnExactTurnBitsSpec)

/-- 'laws.FnExactPassHints', WHERE WHAT IT READS IS OF BULK AT MOST 1048576: true; the input reads as it did. -/
def fnExactPassHintsUptoRow : OpenClaim := { program := "ytnmglbdhnegebaa", sum := "b36eb0769d552ba26720dccc9c29e3c57e5bd3a46ad5fabb809f448629a293be", func := "loop.example/g00043/laws.FnExactPassHints", spec := "fnExactPassHints", apart := false, narrowed := true }
def FnExactPassHintsUptoSaid : Prop := fnExactPassHintsUptoRow.holds Try.pinned (OpenSpec.upto fnExactPassHintsSpec)

end Rows
end Go.Proofs.Ytnmglbdhnegebaa
