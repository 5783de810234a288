/-
  No cell of these rows narrows 'for every input' (looked for: loops, veiled, ifaces, maps, wideKeys, modest, calm, conditions, laid).
  DERIVED. THE GIVEN ROWS OF THIS SEAT. 5 by the template 'for every input the law returns true; each argument reads behind the call as it read before'; 0 by the template 'total and deterministic' (their statements: YtbhjgkbikmjaaaaTotals.lean).
  GIVEN WITH THE SEED: the statements are not yours to turn. If you find one false, say at which input.
  Laid BY PROGRAM, IN A SANDBOX (cutbox-rows.mjs): the forced cells as the released guide's own fill.sh prints them over the translation 10bd8496182d0515… (all of the seat's roots in one cut). By AI agents, Wed Nov 11 2026. No macro, syntax, notation, axiom, sorry.
-/
import Derived.Test.YtbhjgkbikmjaaaaChecked
import GoSem.Claim
import GoSem.ClaimJoined
import GoSem.ClaimMapViews
import Derived.JoinedTies
import Derived.KernelRfl
namespace Go.Proofs.Ytbhjgkbikmjaaaa
/- THE CELL 'sum', in the pinned program and in every row, IS THE sha256 OF THE DUMP (.gsa) THAT YtbhjgkbikmjaaaaProg.lean LOADS. Nothing in Lean hashes anything: it is a label: what it is worth is what the hold of that sum in a sandbox is worth. -/
noncomputable def Try.pinned : Pinned := { name := "ytbhjgkbikmjaaaa", sum := "10bd8496182d0515a2ab6ff13d5e380c1de4e9388d7951dc9fb5cf9ef1a39a02", checked := Try.checked }
namespace Rows
def none {H : Type} : Left H := { results := [], args := [] }

/-- 'laws.FnExactChecksOk': WHATEVER THE INPUT: true; the input reads as it did. -/
def fnExactChecksOkSpec : ChangeSpec := { name := "fnExactChecksOk", fn := fun _ => fun
  | [d1, d2] => { results := [.lit (.bool true)], args := [d1, d2] }
  | _ => none }
def fnExactChecksOkRow : OpenClaim := { program := "ytbhjgkbikmjaaaa", sum := "10bd8496182d0515a2ab6ff13d5e380c1de4e9388d7951dc9fb5cf9ef1a39a02", func := "loop.example/g00043/laws.FnExactChecksOk", spec := "fnExactChecksOk", apart := false }
def FnExactChecksOkSaid : Prop := fnExactChecksOkRow.holds Try.pinned (OpenSpec.ofChange fnExactChecksOkSpec)

/-- ITS FALSE NEIGHBOUR: 'it returns false'. Refute it at one input. -/
def fnExactChecksOkWrong : ChangeSpec := { name := "fnExactChecksOk", fn := fun _ => fun
  | [d1, d2] => { results := [.lit (.bool false)], args := [d1, d2] }
  | _ => none }
def FnExactChecksOkWrongFalsely : Prop := fnExactChecksOkRow.holds Try.pinned (OpenSpec.ofChange fnExactChecksOkWrong)

/-- 'laws.FnExactWiresOk': WHATEVER THE INPUT: true; the input reads as it did. -/
def fnExactWiresOkSpec : ChangeSpec := { name := "fnExactWiresOk", fn := fun _ => fun
  | [d1, d2] => { results := [.lit (.bool true)], args := [d1, d2] }
  | _ => none }
def fnExactWiresOkRow : OpenClaim := { program := "ytbhjgkbikmjaaaa", sum := "10bd8496182d0515a2ab6ff13d5e380c1de4e9388d7951dc9fb5cf9ef1a39a02", func := "loop.example/g00043/laws.FnExactWiresOk", spec := "fnExactWiresOk", unfollowed := true, recurses := true, apart := false }
def FnExactWiresOkSaid : Prop := fnExactWiresOkRow.holds Try.pinned (OpenSpec.ofChange fnExactWiresOkSpec)

/-- ITS FALSE NEIGHBOUR: 'it returns false'. Refute it at one input. -/
def fnExactWiresOkWrong : ChangeSpec := { name := "fnExactWiresOk", fn := fun _ => fun
  | [d1, d2] => { results := [.lit (.bool false)], args := [d1, d2] }
  | _ => none }
def FnExactWiresOkWrongFalsely : Prop := fnExactWiresOkRow.holds Try.pinned (OpenSpec.ofChange fnExactWiresOkWrong)

/-- 'laws.FnQtySums': WHATEVER THE INPUT: true; the input reads as it did. -/
def fnQtySumsSpec : ChangeSpec := { name := "fnQtySums", fn := fun _ => fun
  | [d] => { results := [.lit (.bool true)], args := [d] }
  | _ => none }
def fnQtySumsRow : OpenClaim := { program := "ytbhjgkbikmjaaaa", sum := "10bd8496182d0515a2ab6ff13d5e380c1de4e9388d7951dc9fb5cf9ef1a39a02", func := "loop.example/g00043/laws.FnQtySums", spec := "fnQtySums", recurses := true, apart := false }
def FnQtySumsSaid : Prop := fnQtySumsRow.holds Try.pinned (OpenSpec.ofChange fnQtySumsSpec)

/-- ITS FALSE NEIGHBOUR: 'it returns false'. Refute it at one input. -/
def fnQtySumsWrong : ChangeSpec := { name := "fnQtySums", fn := fun _ => fun
  | [d] => { results := [.lit (.bool false)], args := [d] }
  | _ => none }
def FnQtySumsWrongFalsely : Prop := fnQtySumsRow.holds Try.pinned (OpenSpec.ofChange fnQtySumsWrong)

/-- 'laws.FnExactNodeName': WHATEVER THE INPUT: true; the input reads as it did. -/
def fnExactNodeNameSpec : ChangeSpec := { name := "fnExactNodeName", fn := fun _ => fun
  | [d] => { results := [.lit (.bool true)], args := [d] }
  | _ => none }
def fnExactNodeNameRow : OpenClaim := { program := "ytbhjgkbikmjaaaa", sum := "10bd8496182d0515a2ab6ff13d5e380c1de4e9388d7951dc9fb5cf9ef1a39a02", func := "loop.example/g00043/laws.FnExactNodeName", spec := "fnExactNodeName", unfollowed := true, recurses := true, apart := false }
def FnExactNodeNameSaid : Prop := fnExactNodeNameRow.holds Try.pinned (OpenSpec.ofChange fnExactNodeNameSpec)

/-- ITS FALSE NEIGHBOUR: 'it returns false'. Refute it at one input. -/
def fnExactNodeNameWrong : ChangeSpec := { name := "fnExactNodeName", fn := fun _ => fun
  | [d] => { results := [.lit (.bool false)], args := [d] }
  | _ => none }
def FnExactNodeNameWrongFalsely : Prop := fnExactNodeNameRow.holds Try.pinned (OpenSpec.ofChange fnExactNodeNameWrong)

/-- 'laws.FnExactAir': WHATEVER THE INPUT: true; the input reads as it did. -/
def fnExactAirSpec : ChangeSpec := { name := "fnExactAir", fn := fun _ => fun
  | [d1, d2, d3, d4] => { results := [.lit (.bool true)], args := [d1, d2, d3, d4] }
  | _ => none }
def fnExactAirRow : OpenClaim := { program := "ytbhjgkbikmjaaaa", sum := "10bd8496182d0515a2ab6ff13d5e380c1de4e9388d7951dc9fb5cf9ef1a39a02", func := "loop.example/g00043/laws.FnExactAir", spec := "fnExactAir", unfollowed := true, recurses := true, apart := false }
def FnExactAirSaid : Prop := fnExactAirRow.holds Try.pinned (OpenSpec.ofChange fnExactAirSpec)

/-- ITS FALSE NEIGHBOUR: 'it returns false'. Refute it at one input. -/
def fnExactAirWrong : ChangeSpec := { name := "fnExactAir", fn := fun _ => fun
  | [d1, d2, d3, d4] => { results := [.lit (.bool false)], args := [d1, d2, d3, d4] }
  | _ => none }
def FnExactAirWrongFalsely : Prop := fnExactAirRow.holds Try.pinned (OpenSpec.ofChange fnExactAirWrong)

/- THE SECOND FORM. 'bulk': how many values and letters a reading holds, each counted each time it is reached (what is shared counts as often as it is met; a slice's spare places count too). A statement '..UptoSaid' is the law's where the arguments, and the package variables that the reading takes, are together of bulk at most 1048576: NARROWER than '..Said'. Prove '..Said' where nothing that the law and all that it calls make is longer than what came in: it says more and counts as full. Else prove '..UptoSaid'. A law counts once. -/
mutual
def uptoBulk {H : Type} : DataW H → Nat
  | .lit (.string bytes) => bytes.length + 1
  | .lit _ => 1
  | .nil => 1
  | .ptr d => uptoBulk d + 1
  | .slice elems spare => uptoBulkAll elems + uptoBulkAll spare + 1
  | .agg parts => uptoBulkAll parts + 1
  | .iface _ d => uptoBulk d + 1
  | .map entries => uptoBulkEntries entries + 1
  | .held _ => 1
def uptoBulkAll {H : Type} : List (DataW H) → Nat
  | [] => 0
  | d :: r => uptoBulk d + uptoBulkAll r
def uptoBulkEntries {H : Type} : List (Lit × DataW H) → Nat
  | [] => 0
  | x :: r => uptoBulkEntry x + uptoBulkEntries r
def uptoBulkEntry {H : Type} : Lit × DataW H → Nat
  | (.string bytes, d) => bytes.length + uptoBulk d + 1
  | (_, d) => uptoBulk d + 1
 end
def uptoSmall : (H : Type) → List (DataW H) → Bool := fun _ ds => decide (uptoBulkAll ds ≤ 1048576)
def OpenSpec.upto (s : _root_.Go.ChangeSpec) : _root_.Go.OpenSpec := { _root_.Go.OpenSpec.ofChange s with cond := some uptoSmall }

/-- 'laws.FnExactChecksOk', WHERE WHAT IT READS IS OF BULK AT MOST 1048576: true; the input reads as it did. -/
def fnExactChecksOkUptoRow : OpenClaim := { program := "ytbhjgkbikmjaaaa", sum := "10bd8496182d0515a2ab6ff13d5e380c1de4e9388d7951dc9fb5cf9ef1a39a02", func := "loop.example/g00043/laws.FnExactChecksOk", spec := "fnExactChecksOk", apart := false, narrowed := true }
def FnExactChecksOkUptoSaid : Prop := fnExactChecksOkUptoRow.holds Try.pinned (OpenSpec.upto fnExactChecksOkSpec)

/-- 'laws.FnExactWiresOk', WHERE WHAT IT READS IS OF BULK AT MOST 1048576: true; the input reads as it did. -/
def fnExactWiresOkUptoRow : OpenClaim := { program := "ytbhjgkbikmjaaaa", sum := "10bd8496182d0515a2ab6ff13d5e380c1de4e9388d7951dc9fb5cf9ef1a39a02", func := "loop.example/g00043/laws.FnExactWiresOk", spec := "fnExactWiresOk", unfollowed := true, recurses := true, apart := false, narrowed := true }
def FnExactWiresOkUptoSaid : Prop := fnExactWiresOkUptoRow.holds Try.pinned (OpenSpec.upto fnExactWiresOkSpec)

/-- 'laws.FnQtySums', WHERE WHAT IT READS IS OF BULK AT MOST 1048576: true; the input reads as it did. -/
def fnQtySumsUptoRow : OpenClaim := { program := "ytbhjgkbikmjaaaa", sum := "10bd8496182d0515a2ab6ff13d5e380c1de4e9388d7951dc9fb5cf9ef1a39a02", func := "loop.example/g00043/laws.FnQtySums", spec := "fnQtySums", recurses := true, apart := false, narrowed := true }
def FnQtySumsUptoSaid : Prop := fnQtySumsUptoRow.holds Try.pinned (OpenSpec.upto fnQtySumsSpec)

/-- 'laws.FnExactNodeName', WHERE WHAT IT READS IS OF BULK AT MOST 1048576: true; the input reads as it did. -/
def fnExactNodeNameUptoRow : OpenClaim := { program := "ytbhjgkbikmjaaaa", sum := "10bd8496182d0515a2ab6ff13d5e380c1de4e9388d7951dc9fb5cf9ef1a39a02", func := "loop.example/g00043/laws.FnExactNodeName", spec := "fnExactNodeName", unfollowed := true, recurses := true, apart := false, narrowed := true }
def FnExactNodeNameUptoSaid : Prop := fnExactNodeNameUptoRow.holds Try.pinned (OpenSpec.upto fnExactNodeNameSpec)

/-- 'laws.FnExactAir', WHERE WHAT IT READS IS OF BULK AT MOST 1048576: true; the input reads as it did. -/
def fnExactAirUptoRow : OpenClaim := { program := "ytbhjgkbikmjaaaa", sum := "10bd8496182d0515a2ab6ff13d5e380c1de4e9388d7951dc9fb5cf9ef1a39a02", func := "loop.example/g00043/laws.FnExactAir", spec := "fnExactAir", unfollowed := true, recurses := true, apart := false, narrowed := true }
def FnExactAirUptoSaid : Prop := fnExactAirUptoRow.holds Try.pinned (OpenSpec.upto fnExactAirSpec)

end Rows
end Go.Proofs.Ytbhjgkbikmjaaaa
