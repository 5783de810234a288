/-
  No cell of these rows narrows 'for every input' (looked for: loops, veiled, ifaces, maps, wideKeys, modest, calm, conditions, laid).
  DERIVED. THE GIVEN ROWS OF THIS SEAT. 4 by the template 'for every input the law returns true; each argument reads behind the call as it read before'; 0 by the template 'total and deterministic' (their statements: YtapobpkeefeajaaTotals.lean).
  GIVEN WITH THE SEED: the statements are not yours to turn. If you find one false, say at which input.
  Laid BY PROGRAM, IN A SANDBOX (cutbox-rows.mjs): the forced cells as the released guide's own fill.sh prints them over the translation b09c818048757a49… (all of the seat's roots in one cut). By AI agents, Wed Nov 11 2026. No macro, syntax, notation, axiom, sorry.
-/
import Derived.Test.YtapobpkeefeajaaChecked
import GoSem.Claim
import GoSem.ClaimJoined
import GoSem.ClaimMapViews
import Derived.JoinedTies
import Derived.KernelRfl
namespace Go.Proofs.Ytapobpkeefeajaa
/- THE CELL 'sum', in the pinned program and in every row, IS THE sha256 OF THE DUMP (.gsa) THAT YtapobpkeefeajaaProg.lean LOADS. Nothing in Lean hashes anything: it is a label: what it is worth is what the hold of that sum in a sandbox is worth. -/
noncomputable def Try.pinned : Pinned := { name := "ytapobpkeefeajaa", sum := "b09c818048757a492380700a32e6568936c494be16c325006a255c9670a99b25", checked := Try.checked }
namespace Rows
def none {H : Type} : Left H := { results := [], args := [] }

/-- 'laws.FnExactSend': WHATEVER THE INPUT: true; the input reads as it did. -/
def fnExactSendSpec : ChangeSpec := { name := "fnExactSend", fn := fun _ => fun
  | [d1, d2] => { results := [.lit (.bool true)], args := [d1, d2] }
  | _ => none }
def fnExactSendRow : OpenClaim := { program := "ytapobpkeefeajaa", sum := "b09c818048757a492380700a32e6568936c494be16c325006a255c9670a99b25", func := "loop.example/g00043/laws.FnExactSend", spec := "fnExactSend", unfollowed := true, recurses := true, apart := false }
def FnExactSendSaid : Prop := fnExactSendRow.holds Try.pinned (OpenSpec.ofChange fnExactSendSpec)

/-- ITS FALSE NEIGHBOUR: 'it returns false'. Refute it at one input. -/
def fnExactSendWrong : ChangeSpec := { name := "fnExactSend", fn := fun _ => fun
  | [d1, d2] => { results := [.lit (.bool false)], args := [d1, d2] }
  | _ => none }
def FnExactSendWrongFalsely : Prop := fnExactSendRow.holds Try.pinned (OpenSpec.ofChange fnExactSendWrong)

/-- 'laws.FnClean': WHATEVER THE INPUT: true; the input reads as it did. -/
def fnCleanSpec : ChangeSpec := { name := "fnClean", fn := fun _ => fun
  | [d] => { results := [.lit (.bool true)], args := [d] }
  | _ => none }
def fnCleanRow : OpenClaim := { program := "ytapobpkeefeajaa", sum := "b09c818048757a492380700a32e6568936c494be16c325006a255c9670a99b25", func := "loop.example/g00043/laws.FnClean", spec := "fnClean", unfollowed := true, recurses := true, apart := false }
def FnCleanSaid : Prop := fnCleanRow.holds Try.pinned (OpenSpec.ofChange fnCleanSpec)

/-- ITS FALSE NEIGHBOUR: 'it returns false'. Refute it at one input. -/
def fnCleanWrong : ChangeSpec := { name := "fnClean", fn := fun _ => fun
  | [d] => { results := [.lit (.bool false)], args := [d] }
  | _ => none }
def FnCleanWrongFalsely : Prop := fnCleanRow.holds Try.pinned (OpenSpec.ofChange fnCleanWrong)

/-- 'laws.FnExactHear': WHATEVER THE INPUT: true; the input reads as it did. -/
def fnExactHearSpec : ChangeSpec := { name := "fnExactHear", fn := fun _ => fun
  | [d1, d2, d3] => { results := [.lit (.bool true)], args := [d1, d2, d3] }
  | _ => none }
def fnExactHearRow : OpenClaim := { program := "ytapobpkeefeajaa", sum := "b09c818048757a492380700a32e6568936c494be16c325006a255c9670a99b25", func := "loop.example/g00043/laws.FnExactHear", spec := "fnExactHear", unfollowed := true, recurses := true, apart := false }
def FnExactHearSaid : Prop := fnExactHearRow.holds Try.pinned (OpenSpec.ofChange fnExactHearSpec)

/-- ITS FALSE NEIGHBOUR: 'it returns false'. Refute it at one input. -/
def fnExactHearWrong : ChangeSpec := { name := "fnExactHear", fn := fun _ => fun
  | [d1, d2, d3] => { results := [.lit (.bool false)], args := [d1, d2, d3] }
  | _ => none }
def FnExactHearWrongFalsely : Prop := fnExactHearRow.holds Try.pinned (OpenSpec.ofChange fnExactHearWrong)

/-- 'laws.FnModem': WHATEVER THE INPUT: true; the input reads as it did. -/
def fnModemSpec : ChangeSpec := { name := "fnModem", fn := fun _ => fun
  | [d] => { results := [.lit (.bool true)], args := [d] }
  | _ => none }
def fnModemRow : OpenClaim := { program := "ytapobpkeefeajaa", sum := "b09c818048757a492380700a32e6568936c494be16c325006a255c9670a99b25", func := "loop.example/g00043/laws.FnModem", spec := "fnModem", unfollowed := true, recurses := true, apart := false }
def FnModemSaid : Prop := fnModemRow.holds Try.pinned (OpenSpec.ofChange fnModemSpec)

/-- ITS FALSE NEIGHBOUR: 'it returns false'. Refute it at one input. -/
def fnModemWrong : ChangeSpec := { name := "fnModem", fn := fun _ => fun
  | [d] => { results := [.lit (.bool false)], args := [d] }
  | _ => none }
def FnModemWrongFalsely : Prop := fnModemRow.holds Try.pinned (OpenSpec.ofChange fnModemWrong)

/- THE SECOND FORM. 'bulk': how many values and letters a reading holds, each counted each time it is reached (what is shared counts as often as it is met; a slice's spare places count too). A statement '..UptoSaid' is the law's where the arguments, and the package variables that the reading takes, are together of bulk at most 1048576: NARROWER than '..Said'. Prove '..Said' where nothing that the law and all that it calls make is longer than what came in: it says more and counts as full. Else prove '..UptoSaid'. A law counts once. -/
mutual
def uptoBulk {H : Type} : DataW H → Nat
  | .lit (.string bytes) => bytes.length + 1
  | .lit _ => 1
  | .nil => 1
  | .ptr d => uptoBulk d + 1
  | .slice elems spare => uptoBulkAll elems + uptoBulkAll spare + 1
  | .agg parts => uptoBulkAll parts + 1
  | .iface _ d => uptoBulk d + 1
  | .map entries => uptoBulkEntries entries + 1
  | .held _ => 1
def uptoBulkAll {H : Type} : List (DataW H) → Nat
  | [] => 0
  | d :: r => uptoBulk d + uptoBulkAll r
def uptoBulkEntries {H : Type} : List (Lit × DataW H) → Nat
  | [] => 0
  | x :: r => uptoBulkEntry x + uptoBulkEntries r
def uptoBulkEntry {H : Type} : Lit × DataW H → Nat
  | (.string bytes, d) => bytes.length + uptoBulk d + 1
  | (_, d) => uptoBulk d + 1
 end
def uptoSmall : (H : Type) → List (DataW H) → Bool := fun _ ds => decide (uptoBulkAll ds ≤ 1048576)
def OpenSpec.upto (s : _root_.Go.ChangeSpec) : _root_.Go.OpenSpec := { _root_.Go.OpenSpec.ofChange s with cond := some uptoSmall }

/-- 'laws.FnExactSend', WHERE WHAT IT READS IS OF BULK AT MOST 1048576: true; the input reads as it did. -/
def fnExactSendUptoRow : OpenClaim := { program := "ytapobpkeefeajaa", sum := "b09c818048757a492380700a32e6568936c494be16c325006a255c9670a99b25", func := "loop.example/g00043/laws.FnExactSend", spec := "fnExactSend", unfollowed := true, recurses := true, apart := false, narrowed := true }
def FnExactSendUptoSaid : Prop := fnExactSendUptoRow.holds Try.pinned (OpenSpec.upto fnExactSendSpec)

/-- 'laws.FnClean', WHERE WHAT IT READS IS OF BULK AT MOST 1048576: true; the input reads as it did. -/
def fnCleanUptoRow : OpenClaim := { program := "ytapobpkeefeajaa", sum := "b09c818048757a492380700a32e6568936c494be16c325006a255c9670a99b25", func := "loop.example/g00043/laws.FnClean", spec := "fnClean", unfollowed := true, recurses := true, apart := false, narrowed := true }
def FnCleanUptoSaid : Prop := fnCleanUptoRow.holds Try.pinned (OpenSpec.upto fnCleanSpec)

/-- 'laws.FnExactHear', WHERE WHAT IT READS IS OF BULK AT MOST 1048576: true; the input reads as it did. -/
def fnExactHearUptoRow : OpenClaim := { program := "ytapobpkeefeajaa", sum := "b09c818048757a492380700a32e6568936c494be16c325006a255c9670a99b25", func := "loop.example/g00043/laws.FnExactHear", spec := "fnExactHear", unfollowed := true, recurses := true, apart := false, narrowed := true }
def FnExactHearUptoSaid : Prop := fnExactHearUptoRow.holds Try.pinned (OpenSpec.upto fnExactHearSpec)

/-- 'laws.FnModem', WHERE WHAT IT READS IS OF BULK AT MOST 1048576: true; the input reads as it did. -/
def fnModemUptoRow : OpenClaim := { program := "ytapobpkeefeajaa", sum := "b09c818048757a492380700a32e6568936c494be16c325006a255c9670a99b25", func := "loop.example/g00043/laws.FnModem", spec := "fnModem", unfollowed := true, recurses := true, apart := false, narrowed := true }
def FnModemUptoSaid : Prop := fnModemUptoRow.holds Try.pinned (OpenSpec.upto fnModemSpec)

end Rows
end Go.Proofs.Ytapobpkeefeajaa
