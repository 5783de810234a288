/-
  No cell of these rows narrows 'for every input' (looked for: loops, veiled, ifaces, maps, wideKeys, modest, calm, conditions, laid).
  DERIVED. THE GIVEN ROWS OF THIS SEAT. 6 by the template 'for every input the law returns true; each argument reads behind the call as it read before'; 0 by the template 'total and deterministic' (their statements: YtckadpomhdjkhaaTotals.lean).
  GIVEN WITH THE SEED: the statements are not yours to turn. If you find one false, say at which input.
  Laid BY PROGRAM, IN A SANDBOX (cutbox-rows.mjs): the forced cells as the released guide's own fill.sh prints them over the translation 75fdcddcedb7eacb… (all of the seat's roots in one cut). By AI agents, Wed Nov 11 2026. No macro, syntax, notation, axiom, sorry.
-/
import Derived.Test.YtckadpomhdjkhaaChecked
import GoSem.Claim
import GoSem.ClaimJoined
import GoSem.ClaimMapViews
import Derived.JoinedTies
import Derived.KernelRfl
namespace Go.Proofs.Ytckadpomhdjkhaa
/- THE CELL 'sum', in the pinned program and in every row, IS THE sha256 OF THE DUMP (.gsa) THAT YtckadpomhdjkhaaProg.lean LOADS. Nothing in Lean hashes anything: it is a label: what it is worth is what the hold of that sum in a sandbox is worth. -/
noncomputable def Try.pinned : Pinned := { name := "ytckadpomhdjkhaa", sum := "75fdcddcedb7eacb4950f3bc7c7740a6a669584825de03b67a2aaea7ce3e5b1e", checked := Try.checked }
namespace Rows
def none {H : Type} : Left H := { results := [], args := [] }

/-- 'laws.FnExactFire': WHATEVER THE INPUT: true; the input reads as it did. -/
def fnExactFireSpec : ChangeSpec := { name := "fnExactFire", fn := fun _ => fun
  | [d1, d2, d3] => { results := [.lit (.bool true)], args := [d1, d2, d3] }
  | _ => none }
def fnExactFireRow : OpenClaim := { program := "ytckadpomhdjkhaa", sum := "75fdcddcedb7eacb4950f3bc7c7740a6a669584825de03b67a2aaea7ce3e5b1e", func := "loop.example/g00043/laws.FnExactFire", spec := "fnExactFire", unfollowed := true, recurses := true, apart := false }
def FnExactFireSaid : Prop := fnExactFireRow.holds Try.pinned (OpenSpec.ofChange fnExactFireSpec)

/-- ITS FALSE NEIGHBOUR: 'it returns false'. Refute it at one input. -/
def fnExactFireWrong : ChangeSpec := { name := "fnExactFire", fn := fun _ => fun
  | [d1, d2, d3] => { results := [.lit (.bool false)], args := [d1, d2, d3] }
  | _ => none }
def FnExactFireWrongFalsely : Prop := fnExactFireRow.holds Try.pinned (OpenSpec.ofChange fnExactFireWrong)

/-- 'laws.FnExactRoom': WHATEVER THE INPUT: true; the input reads as it did. -/
def fnExactRoomSpec : ChangeSpec := { name := "fnExactRoom", fn := fun _ => fun
  | [d1, d2, d3] => { results := [.lit (.bool true)], args := [d1, d2, d3] }
  | _ => none }
def fnExactRoomRow : OpenClaim := { program := "ytckadpomhdjkhaa", sum := "75fdcddcedb7eacb4950f3bc7c7740a6a669584825de03b67a2aaea7ce3e5b1e", func := "loop.example/g00043/laws.FnExactRoom", spec := "fnExactRoom", unfollowed := true, recurses := true, apart := false }
def FnExactRoomSaid : Prop := fnExactRoomRow.holds Try.pinned (OpenSpec.ofChange fnExactRoomSpec)

/-- ITS FALSE NEIGHBOUR: 'it returns false'. Refute it at one input. -/
def fnExactRoomWrong : ChangeSpec := { name := "fnExactRoom", fn := fun _ => fun
  | [d1, d2, d3] => { results := [.lit (.bool false)], args := [d1, d2, d3] }
  | _ => none }
def FnExactRoomWrongFalsely : Prop := fnExactRoomRow.holds Try.pinned (OpenSpec.ofChange fnExactRoomWrong)

/-- 'laws.FnExactPlanOk': WHATEVER THE INPUT: true; the input reads as it did. -/
def fnExactPlanOkSpec : ChangeSpec := { name := "fnExactPlanOk", fn := fun _ => fun
  | [d] => { results := [.lit (.bool true)], args := [d] }
  | _ => none }
def fnExactPlanOkRow : OpenClaim := { program := "ytckadpomhdjkhaa", sum := "75fdcddcedb7eacb4950f3bc7c7740a6a669584825de03b67a2aaea7ce3e5b1e", func := "loop.example/g00043/laws.FnExactPlanOk", spec := "fnExactPlanOk", unfollowed := true, recurses := true, apart := false }
def FnExactPlanOkSaid : Prop := fnExactPlanOkRow.holds Try.pinned (OpenSpec.ofChange fnExactPlanOkSpec)

/-- ITS FALSE NEIGHBOUR: 'it returns false'. Refute it at one input. -/
def fnExactPlanOkWrong : ChangeSpec := { name := "fnExactPlanOk", fn := fun _ => fun
  | [d] => { results := [.lit (.bool false)], args := [d] }
  | _ => none }
def FnExactPlanOkWrongFalsely : Prop := fnExactPlanOkRow.holds Try.pinned (OpenSpec.ofChange fnExactPlanOkWrong)

/-- 'laws.FnExactWiring': WHATEVER THE INPUT: true; the input reads as it did. -/
def fnExactWiringSpec : ChangeSpec := { name := "fnExactWiring", fn := fun _ => fun
  | [d] => { results := [.lit (.bool true)], args := [d] }
  | _ => none }
def fnExactWiringRow : OpenClaim := { program := "ytckadpomhdjkhaa", sum := "75fdcddcedb7eacb4950f3bc7c7740a6a669584825de03b67a2aaea7ce3e5b1e", func := "loop.example/g00043/laws.FnExactWiring", spec := "fnExactWiring", unfollowed := true, recurses := true, apart := false }
def FnExactWiringSaid : Prop := fnExactWiringRow.holds Try.pinned (OpenSpec.ofChange fnExactWiringSpec)

/-- ITS FALSE NEIGHBOUR: 'it returns false'. Refute it at one input. -/
def fnExactWiringWrong : ChangeSpec := { name := "fnExactWiring", fn := fun _ => fun
  | [d] => { results := [.lit (.bool false)], args := [d] }
  | _ => none }
def FnExactWiringWrongFalsely : Prop := fnExactWiringRow.holds Try.pinned (OpenSpec.ofChange fnExactWiringWrong)

/-- 'laws.FnExactPlayBy': WHATEVER THE INPUT: true; the input reads as it did. -/
def fnExactPlayBySpec : ChangeSpec := { name := "fnExactPlayBy", fn := fun _ => fun
  | [d1, d2, d3] => { results := [.lit (.bool true)], args := [d1, d2, d3] }
  | _ => none }
def fnExactPlayByRow : OpenClaim := { program := "ytckadpomhdjkhaa", sum := "75fdcddcedb7eacb4950f3bc7c7740a6a669584825de03b67a2aaea7ce3e5b1e", func := "loop.example/g00043/laws.FnExactPlayBy", spec := "fnExactPlayBy", unfollowed := true, recurses := true, apart := false }
def FnExactPlayBySaid : Prop := fnExactPlayByRow.holds Try.pinned (OpenSpec.ofChange fnExactPlayBySpec)

/-- ITS FALSE NEIGHBOUR: 'it returns false'. Refute it at one input. -/
def fnExactPlayByWrong : ChangeSpec := { name := "fnExactPlayBy", fn := fun _ => fun
  | [d1, d2, d3] => { results := [.lit (.bool false)], args := [d1, d2, d3] }
  | _ => none }
def FnExactPlayByWrongFalsely : Prop := fnExactPlayByRow.holds Try.pinned (OpenSpec.ofChange fnExactPlayByWrong)

/-- 'laws.FnExactSend': WHATEVER THE INPUT: true; the input reads as it did. -/
def fnExactSendSpec : ChangeSpec := { name := "fnExactSend", fn := fun _ => fun
  | [d1, d2] => { results := [.lit (.bool true)], args := [d1, d2] }
  | _ => none }
def fnExactSendRow : OpenClaim := { program := "ytckadpomhdjkhaa", sum := "75fdcddcedb7eacb4950f3bc7c7740a6a669584825de03b67a2aaea7ce3e5b1e", func := "loop.example/g00043/laws.FnExactSend", spec := "fnExactSend", unfollowed := true, recurses := true, apart := false }
def FnExactSendSaid : Prop := fnExactSendRow.holds Try.pinned (OpenSpec.ofChange fnExactSendSpec)

/-- ITS FALSE NEIGHBOUR: 'it returns false'. Refute it at one input. -/
def fnExactSendWrong : ChangeSpec := { name := "fnExactSend", fn := fun _ => fun
  | [d1, d2] => { results := [.lit (.bool false)], args := [d1, d2] }
  | _ => none }
def FnExactSendWrongFalsely : Prop := fnExactSendRow.holds Try.pinned (OpenSpec.ofChange fnExactSendWrong)

/- THE SECOND FORM. 'bulk': how many values and letters a reading holds, each counted each time it is reached (what is shared counts as often as it is met; a slice's spare places count too). A statement '..UptoSaid' is the law's where the arguments, and the package variables that the reading takes, are together of bulk at most 1048576: NARROWER than '..Said'. Prove '..Said' where nothing that the law and all that it calls make is longer than what came in: it says more and counts as full. Else prove '..UptoSaid'. A law counts once. -/
mutual
def uptoBulk {H : Type} : DataW H → Nat
  | .lit (.string bytes) => bytes.length + 1
  | .lit _ => 1
  | .nil => 1
  | .ptr d => uptoBulk d + 1
  | .slice elems spare => uptoBulkAll elems + uptoBulkAll spare + 1
  | .agg parts => uptoBulkAll parts + 1
  | .iface _ d => uptoBulk d + 1
  | .map entries => uptoBulkEntries entries + 1
  | .held _ => 1
def uptoBulkAll {H : Type} : List (DataW H) → Nat
  | [] => 0
  | d :: r => uptoBulk d + uptoBulkAll r
def uptoBulkEntries {H : Type} : List (Lit × DataW H) → Nat
  | [] => 0
  | x :: r => uptoBulkEntry x + uptoBulkEntries r
def uptoBulkEntry {H : Type} : Lit × DataW H → Nat
  | (.string bytes, d) => bytes.length + uptoBulk d + 1
  | (_, d) => uptoBulk d + 1
 end
def uptoSmall : (H : Type) → List (DataW H) → Bool := fun _ ds => decide (uptoBulkAll ds ≤ 1048576)
def OpenSpec.upto (s : _root_.Go.ChangeSpec) : _root_.Go.OpenSpec := { _root_.Go.OpenSpec.ofChange s with cond := some uptoSmall }

/-- 'laws.FnExactFire', WHERE WHAT IT READS IS OF BULK AT MOST 1048576: true; the input reads as it did. -/
def fnExactFireUptoRow : OpenClaim := { program := "ytckadpomhdjkhaa", sum := "75fdcddcedb7eacb4950f3bc7c7740a6a669584825de03b67a2aaea7ce3e5b1e", func := "loop.example/g00043/laws.FnExactFire", spec := "fnExactFire", unfollowed := true, recurses := true, apart := false, narrowed := true }
def FnExactFireUptoSaid : Prop := fnExactFireUptoRow.holds Try.pinned (OpenSpec.upto fnExactFireSpec)

/-- 'laws.FnExactRoom', WHERE WHAT IT READS IS OF BULK AT MOST 1048576: true; the input reads as it did. -/
def fnExactRoomUptoRow : OpenClaim := { program := "ytckadpomhdjkhaa", sum := "75fdcddcedb7eacb4950f3bc7c7740a6a669584825de03b67a2aaea7ce3e5b1e", func := "loop.example/g00043/laws.FnExactRoom", spec := "fnExactRoom", unfollowed := true, recurses := true, apart := false, narrowed := true }
def FnExactRoomUptoSaid : Prop := fnExactRoomUptoRow.holds Try.pinned (OpenSpec.upto fnExactRoomSpec)

/-- 'laws.FnExactPlanOk', WHERE WHAT IT READS IS OF BULK AT MOST 1048576: true; the input reads as it did. -/
def fnExactPlanOkUptoRow : OpenClaim := { program := "ytckadpomhdjkhaa", sum := "75fdcddcedb7eacb4950f3bc7c7740a6a669584825de03b67a2aaea7ce3e5b1e", func := "loop.example/g00043/laws.FnExactPlanOk", spec := "fnExactPlanOk", unfollowed := true, recurses := true, apart := false, narrowed := true }
def FnExactPlanOkUptoSaid : Prop := fnExactPlanOkUptoRow.holds Try.pinned (OpenSpec.upto fnExactPlanOkSpec)

/-- 'laws.FnExactWiring', WHERE WHAT IT READS IS OF BULK AT MOST 1048576: true; the input reads as it did. -/
def fnExactWiringUptoRow : OpenClaim := { program := "ytckadpomhdjkhaa", sum := "75fdcddcedb7eacb4950f3bc7c7740a6a669584825de03b67a2aaea7ce3e5b1e", func := "loop.example/g00043/laws.FnExactWiring", spec := "fnExactWiring", unfollowed := true, recurses := true, apart := false, narrowed := true }
def FnExactWiringUptoSaid : Prop := fnExactWiringUptoRow.holds Try.pinned (OpenSpec.upto fnExactWiringSpec)

/-- 'laws.FnExactPlayBy', WHERE WHAT IT READS IS OF BULK AT MOST 1048576: true; the input reads as it did. -/
def fnExactPlayByUptoRow : OpenClaim := { program := "ytckadpomhdjkhaa", sum := "75fdcddcedb7eacb4950f3bc7c7740a6a669584825de03b67a2aaea7ce3e5b1e", func := "loop.example/g00043/laws.FnExactPlayBy", spec := "fnExactPlayBy", unfollowed := true, recurses := true, apart := false, narrowed := true }
def FnExactPlayByUptoSaid : Prop := fnExactPlayByUptoRow.holds Try.pinned (OpenSpec.upto fnExactPlayBySpec)

/-- 'laws.FnExactSend', WHERE WHAT IT READS IS OF BULK AT MOST 1048576: true; the input reads as it did. -/
def fnExactSendUptoRow : OpenClaim := { program := "ytckadpomhdjkhaa", sum := "75fdcddcedb7eacb4950f3bc7c7740a6a669584825de03b67a2aaea7ce3e5b1e", func := "loop.example/g00043/laws.FnExactSend", spec := "fnExactSend", unfollowed := true, recurses := true, apart := false, narrowed := true }
def FnExactSendUptoSaid : Prop := fnExactSendUptoRow.holds Try.pinned (OpenSpec.upto fnExactSendSpec)

end Rows
end Go.Proofs.Ytckadpomhdjkhaa
