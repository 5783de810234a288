/-
  No cell of these rows narrows 'for every input' (looked for: loops, veiled, ifaces, maps, wideKeys, modest, calm, conditions, laid).
  DERIVED. THE GIVEN ROWS OF THIS SEAT. 3 by the template 'for every input the law returns true; each argument reads behind the call as it read before'; 0 by the template 'total and deterministic' (their statements: YtoggbgkpeigfmaaTotals.lean).
  GIVEN WITH THE SEED: the statements are not yours to turn. If you find one false, say at which input.
  Laid BY PROGRAM, IN A SANDBOX (cutbox-rows.mjs): the forced cells as the released guide's own fill.sh prints them over the translation 1d09137f25ef1b26… (all of the seat's roots in one cut). By AI agents, Wed Nov 11 2026. No macro, syntax, notation, axiom, sorry.
-/
import Derived.Test.YtoggbgkpeigfmaaChecked
import GoSem.Claim
import GoSem.ClaimJoined
import GoSem.ClaimMapViews
import Derived.JoinedTies
import Derived.KernelRfl
namespace Go.Proofs.Ytoggbgkpeigfmaa
/- THE CELL 'sum', in the pinned program and in every row, IS THE sha256 OF THE DUMP (.gsa) THAT YtoggbgkpeigfmaaProg.lean LOADS. Nothing in Lean hashes anything: it is a label: what it is worth is what the hold of that sum in a sandbox is worth. -/
noncomputable def Try.pinned : Pinned := { name := "ytoggbgkpeigfmaa", sum := "1d09137f25ef1b26fc0991ae1a95a5b610b1ee155cba2365a781cdad865e581b", checked := Try.checked }
namespace Rows
def none {H : Type} : Left H := { results := [], args := [] }

/-- 'laws.FnLikeliest': WHATEVER THE INPUT: true; the input reads as it did. -/
def fnLikeliestSpec : ChangeSpec := { name := "fnLikeliest", fn := fun _ => fun
  | [d] => { results := [.lit (.bool true)], args := [d] }
  | _ => none }
def fnLikeliestRow : OpenClaim := { program := "ytoggbgkpeigfmaa", sum := "1d09137f25ef1b26fc0991ae1a95a5b610b1ee155cba2365a781cdad865e581b", func := "loop.example/g00043/laws.FnLikeliest", spec := "fnLikeliest", unfollowed := true, recurses := true, apart := false }
def FnLikeliestSaid : Prop := fnLikeliestRow.holds Try.pinned (OpenSpec.ofChange fnLikeliestSpec)

/-- ITS FALSE NEIGHBOUR: 'it returns false'. Refute it at one input. -/
def fnLikeliestWrong : ChangeSpec := { name := "fnLikeliest", fn := fun _ => fun
  | [d] => { results := [.lit (.bool false)], args := [d] }
  | _ => none }
def FnLikeliestWrongFalsely : Prop := fnLikeliestRow.holds Try.pinned (OpenSpec.ofChange fnLikeliestWrong)

/-- 'laws.FnExactLikeliest': WHATEVER THE INPUT: true; the input reads as it did. -/
def fnExactLikeliestSpec : ChangeSpec := { name := "fnExactLikeliest", fn := fun _ => fun
  | [d1, d2, d3, d4] => { results := [.lit (.bool true)], args := [d1, d2, d3, d4] }
  | _ => none }
def fnExactLikeliestRow : OpenClaim := { program := "ytoggbgkpeigfmaa", sum := "1d09137f25ef1b26fc0991ae1a95a5b610b1ee155cba2365a781cdad865e581b", func := "loop.example/g00043/laws.FnExactLikeliest", spec := "fnExactLikeliest", unfollowed := true, recurses := true, apart := false }
def FnExactLikeliestSaid : Prop := fnExactLikeliestRow.holds Try.pinned (OpenSpec.ofChange fnExactLikeliestSpec)

/-- ITS FALSE NEIGHBOUR: 'it returns false'. Refute it at one input. -/
def fnExactLikeliestWrong : ChangeSpec := { name := "fnExactLikeliest", fn := fun _ => fun
  | [d1, d2, d3, d4] => { results := [.lit (.bool false)], args := [d1, d2, d3, d4] }
  | _ => none }
def FnExactLikeliestWrongFalsely : Prop := fnExactLikeliestRow.holds Try.pinned (OpenSpec.ofChange fnExactLikeliestWrong)

/-- 'laws.FnScored': WHATEVER THE INPUT: true; the input reads as it did. -/
def fnScoredSpec : ChangeSpec := { name := "fnScored", fn := fun _ => fun
  | [d1, d2] => { results := [.lit (.bool true)], args := [d1, d2] }
  | _ => none }
def fnScoredRow : OpenClaim := { program := "ytoggbgkpeigfmaa", sum := "1d09137f25ef1b26fc0991ae1a95a5b610b1ee155cba2365a781cdad865e581b", func := "loop.example/g00043/laws.FnScored", spec := "fnScored", unfollowed := true, recurses := true, apart := false }
def FnScoredSaid : Prop := fnScoredRow.holds Try.pinned (OpenSpec.ofChange fnScoredSpec)

/-- ITS FALSE NEIGHBOUR: 'it returns false'. Refute it at one input. -/
def fnScoredWrong : ChangeSpec := { name := "fnScored", fn := fun _ => fun
  | [d1, d2] => { results := [.lit (.bool false)], args := [d1, d2] }
  | _ => none }
def FnScoredWrongFalsely : Prop := fnScoredRow.holds Try.pinned (OpenSpec.ofChange fnScoredWrong)

/- THE SECOND FORM. 'bulk': how many values and letters a reading holds, each counted each time it is reached (what is shared counts as often as it is met; a slice's spare places count too). A statement '..UptoSaid' is the law's where the arguments, and the package variables that the reading takes, are together of bulk at most 1048576: NARROWER than '..Said'. Prove '..Said' where nothing that the law and all that it calls make is longer than what came in: it says more and counts as full. Else prove '..UptoSaid'. A law counts once. -/
mutual
def uptoBulk {H : Type} : DataW H → Nat
  | .lit (.string bytes) => bytes.length + 1
  | .lit _ => 1
  | .nil => 1
  | .ptr d => uptoBulk d + 1
  | .slice elems spare => uptoBulkAll elems + uptoBulkAll spare + 1
  | .agg parts => uptoBulkAll parts + 1
  | .iface _ d => uptoBulk d + 1
  | .map entries => uptoBulkEntries entries + 1
  | .held _ => 1
def uptoBulkAll {H : Type} : List (DataW H) → Nat
  | [] => 0
  | d :: r => uptoBulk d + uptoBulkAll r
def uptoBulkEntries {H : Type} : List (Lit × DataW H) → Nat
  | [] => 0
  | x :: r => uptoBulkEntry x + uptoBulkEntries r
def uptoBulkEntry {H : Type} : Lit × DataW H → Nat
  | (.string bytes, d) => bytes.length + uptoBulk d + 1
  | (_, d) => uptoBulk d + 1
 end
def uptoSmall : (H : Type) → List (DataW H) → Bool := fun _ ds => decide (uptoBulkAll ds ≤ 1048576)
def OpenSpec.upto (s : _root_.Go.ChangeSpec) : _root_.Go.OpenSpec := { _root_.Go.OpenSpec.ofChange s with cond := some uptoSmall }

/-- 'laws.FnLikeliest', WHERE WHAT IT READS IS OF BULK AT MOST 1048576: true; the input reads as it did. -/
def fnLikeliestUptoRow : OpenClaim := { program := "ytoggbgkpeigfmaa", sum := "1d09137f25ef1b26fc0991ae1a95a5b610b1ee155cba2365a781cdad865e581b", func := "loop.example/g00043/laws.FnLikeliest", spec := "fnLikeliest", unfollowed := true, recurses := true, apart := false, narrowed := true }
def FnLikeliestUptoSaid : Prop := fnLikeliestUptoRow.holds Try.pinned (OpenSpec.upto fnLikeliestSpec)

/-- 'laws.FnExactLikeliest', WHERE WHAT IT READS IS OF BULK AT MOST 1048576: true; the input reads as it did. -/
def fnExactLikeliestUptoRow : OpenClaim := { program := "ytoggbgkpeigfmaa", sum := "1d09137f25ef1b26fc0991ae1a95a5b610b1ee155cba2365a781cdad865e581b", func := "loop.example/g00043/laws.FnExactLikeliest", spec := "fnExactLikeliest", unfollowed := true, recurses := true, apart := false, narrowed := true }
def FnExactLikeliestUptoSaid : Prop := fnExactLikeliestUptoRow.holds Try.pinned (OpenSpec.upto fnExactLikeliestSpec)

/-- 'laws.FnScored', WHERE WHAT IT READS IS OF BULK AT MOST 1048576: true; the input reads as it did. -/
def fnScoredUptoRow : OpenClaim := { program := "ytoggbgkpeigfmaa", sum := "1d09137f25ef1b26fc0991ae1a95a5b610b1ee155cba2365a781cdad865e581b", func := "loop.example/g00043/laws.FnScored", spec := "fnScored", unfollowed := true, recurses := true, apart := false, narrowed := true }
def FnScoredUptoSaid : Prop := fnScoredUptoRow.holds Try.pinned (OpenSpec.upto fnScoredSpec)

end Rows
end Go.Proofs.Ytoggbgkpeigfmaa
