/-
  No cell of these rows narrows 'for every input' (looked for: loops, veiled, ifaces, maps, wideKeys, modest, calm, conditions, laid).
  DERIVED. THE GIVEN ROWS OF THIS SEAT. 12 by the template 'for every input the law returns true; each argument reads behind the call as it read before'; 0 by the template 'total and deterministic' (their statements: YtieadaglkibjbaaTotals.lean).
  GIVEN WITH THE SEED: the statements are not yours to turn. If you find one false, say at which input.
  Laid BY PROGRAM, IN A SANDBOX (cutbox-rows.mjs): the forced cells as the released guide's own fill.sh prints them over the translation 5eb8d9267c317117… (all of the seat's roots in one cut). By AI agents, Wed Nov 11 2026. No macro, syntax, notation, axiom, sorry.
-/
import Derived.Test.YtieadaglkibjbaaChecked
import GoSem.Claim
import GoSem.ClaimJoined
import GoSem.ClaimMapViews
import Derived.JoinedTies
import Derived.KernelRfl
namespace Go.Proofs.Ytieadaglkibjbaa
/- THE CELL 'sum', in the pinned program and in every row, IS THE sha256 OF THE DUMP (.gsa) THAT YtieadaglkibjbaaProg.lean LOADS. Nothing in Lean hashes anything: it is a label: what it is worth is what the hold of that sum in a sandbox is worth. -/
noncomputable def Try.pinned : Pinned := { name := "ytieadaglkibjbaa", sum := "5eb8d9267c317117f93170bd3381f59028303a8fe5eb742a8a598c26394e0ba7", checked := Try.checked }
namespace Rows
def none {H : Type} : Left H := { results := [], args := [] }

/-- 'laws.FnGuessed': WHATEVER THE INPUT: true; the input reads as it did. -/
def fnGuessedSpec : ChangeSpec := { name := "fnGuessed", fn := fun _ => fun
  | [d] => { results := [.lit (.bool true)], args := [d] }
  | _ => none }
def fnGuessedRow : OpenClaim := { program := "ytieadaglkibjbaa", sum := "5eb8d9267c317117f93170bd3381f59028303a8fe5eb742a8a598c26394e0ba7", func := "loop.example/g00043/laws.FnGuessed", spec := "fnGuessed", unfollowed := true, recurses := true, apart := false }
def FnGuessedSaid : Prop := fnGuessedRow.holds Try.pinned (OpenSpec.ofChange fnGuessedSpec)

/-- ITS FALSE NEIGHBOUR: 'it returns false'. Refute it at one input. -/
def fnGuessedWrong : ChangeSpec := { name := "fnGuessed", fn := fun _ => fun
  | [d] => { results := [.lit (.bool false)], args := [d] }
  | _ => none }
def FnGuessedWrongFalsely : Prop := fnGuessedRow.holds Try.pinned (OpenSpec.ofChange fnGuessedWrong)

/-- 'laws.FnLikeliest': WHATEVER THE INPUT: true; the input reads as it did. -/
def fnLikeliestSpec : ChangeSpec := { name := "fnLikeliest", fn := fun _ => fun
  | [d] => { results := [.lit (.bool true)], args := [d] }
  | _ => none }
def fnLikeliestRow : OpenClaim := { program := "ytieadaglkibjbaa", sum := "5eb8d9267c317117f93170bd3381f59028303a8fe5eb742a8a598c26394e0ba7", func := "loop.example/g00043/laws.FnLikeliest", spec := "fnLikeliest", unfollowed := true, recurses := true, apart := false }
def FnLikeliestSaid : Prop := fnLikeliestRow.holds Try.pinned (OpenSpec.ofChange fnLikeliestSpec)

/-- ITS FALSE NEIGHBOUR: 'it returns false'. Refute it at one input. -/
def fnLikeliestWrong : ChangeSpec := { name := "fnLikeliest", fn := fun _ => fun
  | [d] => { results := [.lit (.bool false)], args := [d] }
  | _ => none }
def FnLikeliestWrongFalsely : Prop := fnLikeliestRow.holds Try.pinned (OpenSpec.ofChange fnLikeliestWrong)

/-- 'laws.FnExactLikeliest': WHATEVER THE INPUT: true; the input reads as it did. -/
def fnExactLikeliestSpec : ChangeSpec := { name := "fnExactLikeliest", fn := fun _ => fun
  | [d1, d2, d3, d4] => { results := [.lit (.bool true)], args := [d1, d2, d3, d4] }
  | _ => none }
def fnExactLikeliestRow : OpenClaim := { program := "ytieadaglkibjbaa", sum := "5eb8d9267c317117f93170bd3381f59028303a8fe5eb742a8a598c26394e0ba7", func := "loop.example/g00043/laws.FnExactLikeliest", spec := "fnExactLikeliest", unfollowed := true, recurses := true, apart := false }
def FnExactLikeliestSaid : Prop := fnExactLikeliestRow.holds Try.pinned (OpenSpec.ofChange fnExactLikeliestSpec)

/-- ITS FALSE NEIGHBOUR: 'it returns false'. Refute it at one input. -/
def fnExactLikeliestWrong : ChangeSpec := { name := "fnExactLikeliest", fn := fun _ => fun
  | [d1, d2, d3, d4] => { results := [.lit (.bool false)], args := [d1, d2, d3, d4] }
  | _ => none }
def FnExactLikeliestWrongFalsely : Prop := fnExactLikeliestRow.holds Try.pinned (OpenSpec.ofChange fnExactLikeliestWrong)

/-- 'laws.FnScored': WHATEVER THE INPUT: true; the input reads as it did. -/
def fnScoredSpec : ChangeSpec := { name := "fnScored", fn := fun _ => fun
  | [d1, d2] => { results := [.lit (.bool true)], args := [d1, d2] }
  | _ => none }
def fnScoredRow : OpenClaim := { program := "ytieadaglkibjbaa", sum := "5eb8d9267c317117f93170bd3381f59028303a8fe5eb742a8a598c26394e0ba7", func := "loop.example/g00043/laws.FnScored", spec := "fnScored", unfollowed := true, recurses := true, apart := false }
def FnScoredSaid : Prop := fnScoredRow.holds Try.pinned (OpenSpec.ofChange fnScoredSpec)

/-- ITS FALSE NEIGHBOUR: 'it returns false'. Refute it at one input. -/
def fnScoredWrong : ChangeSpec := { name := "fnScored", fn := fun _ => fun
  | [d1, d2] => { results := [.lit (.bool false)], args := [d1, d2] }
  | _ => none }
def FnScoredWrongFalsely : Prop := fnScoredRow.holds Try.pinned (OpenSpec.ofChange fnScoredWrong)

/-- 'laws.FnExactPackFrame': WHATEVER THE INPUT: true; the input reads as it did. -/
def fnExactPackFrameSpec : ChangeSpec := { name := "fnExactPackFrame", fn := fun _ => fun
  | [d] => { results := [.lit (.bool true)], args := [d] }
  | _ => none }
def fnExactPackFrameRow : OpenClaim := { program := "ytieadaglkibjbaa", sum := "5eb8d9267c317117f93170bd3381f59028303a8fe5eb742a8a598c26394e0ba7", func := "loop.example/g00043/laws.FnExactPackFrame", spec := "fnExactPackFrame", unfollowed := true, recurses := true, apart := false }
def FnExactPackFrameSaid : Prop := fnExactPackFrameRow.holds Try.pinned (OpenSpec.ofChange fnExactPackFrameSpec)

/-- ITS FALSE NEIGHBOUR: 'it returns false'. Refute it at one input. -/
def fnExactPackFrameWrong : ChangeSpec := { name := "fnExactPackFrame", fn := fun _ => fun
  | [d] => { results := [.lit (.bool false)], args := [d] }
  | _ => none }
def FnExactPackFrameWrongFalsely : Prop := fnExactPackFrameRow.holds Try.pinned (OpenSpec.ofChange fnExactPackFrameWrong)

/-- 'laws.FnExactPackAll': WHATEVER THE INPUT: true; the input reads as it did. -/
def fnExactPackAllSpec : ChangeSpec := { name := "fnExactPackAll", fn := fun _ => fun
  | [d1, d2] => { results := [.lit (.bool true)], args := [d1, d2] }
  | _ => none }
def fnExactPackAllRow : OpenClaim := { program := "ytieadaglkibjbaa", sum := "5eb8d9267c317117f93170bd3381f59028303a8fe5eb742a8a598c26394e0ba7", func := "loop.example/g00043/laws.FnExactPackAll", spec := "fnExactPackAll", unfollowed := true, recurses := true, apart := false }
def FnExactPackAllSaid : Prop := fnExactPackAllRow.holds Try.pinned (OpenSpec.ofChange fnExactPackAllSpec)

/-- ITS FALSE NEIGHBOUR: 'it returns false'. Refute it at one input. -/
def fnExactPackAllWrong : ChangeSpec := { name := "fnExactPackAll", fn := fun _ => fun
  | [d1, d2] => { results := [.lit (.bool false)], args := [d1, d2] }
  | _ => none }
def FnExactPackAllWrongFalsely : Prop := fnExactPackAllRow.holds Try.pinned (OpenSpec.ofChange fnExactPackAllWrong)

/-- 'laws.FnFrameHurt': WHATEVER THE INPUT: true; the input reads as it did. -/
def fnFrameHurtSpec : ChangeSpec := { name := "fnFrameHurt", fn := fun _ => fun
  | [d] => { results := [.lit (.bool true)], args := [d] }
  | _ => none }
def fnFrameHurtRow : OpenClaim := { program := "ytieadaglkibjbaa", sum := "5eb8d9267c317117f93170bd3381f59028303a8fe5eb742a8a598c26394e0ba7", func := "loop.example/g00043/laws.FnFrameHurt", spec := "fnFrameHurt", unfollowed := true, recurses := true, apart := false }
def FnFrameHurtSaid : Prop := fnFrameHurtRow.holds Try.pinned (OpenSpec.ofChange fnFrameHurtSpec)

/-- ITS FALSE NEIGHBOUR: 'it returns false'. Refute it at one input. -/
def fnFrameHurtWrong : ChangeSpec := { name := "fnFrameHurt", fn := fun _ => fun
  | [d] => { results := [.lit (.bool false)], args := [d] }
  | _ => none }
def FnFrameHurtWrongFalsely : Prop := fnFrameHurtRow.holds Try.pinned (OpenSpec.ofChange fnFrameHurtWrong)

/-- 'laws.FnExactOpenFrame': WHATEVER THE INPUT: true; the input reads as it did. -/
def fnExactOpenFrameSpec : ChangeSpec := { name := "fnExactOpenFrame", fn := fun _ => fun
  | [d1, d2] => { results := [.lit (.bool true)], args := [d1, d2] }
  | _ => none }
def fnExactOpenFrameRow : OpenClaim := { program := "ytieadaglkibjbaa", sum := "5eb8d9267c317117f93170bd3381f59028303a8fe5eb742a8a598c26394e0ba7", func := "loop.example/g00043/laws.FnExactOpenFrame", spec := "fnExactOpenFrame", unfollowed := true, recurses := true, apart := false }
def FnExactOpenFrameSaid : Prop := fnExactOpenFrameRow.holds Try.pinned (OpenSpec.ofChange fnExactOpenFrameSpec)

/-- ITS FALSE NEIGHBOUR: 'it returns false'. Refute it at one input. -/
def fnExactOpenFrameWrong : ChangeSpec := { name := "fnExactOpenFrame", fn := fun _ => fun
  | [d1, d2] => { results := [.lit (.bool false)], args := [d1, d2] }
  | _ => none }
def FnExactOpenFrameWrongFalsely : Prop := fnExactOpenFrameRow.holds Try.pinned (OpenSpec.ofChange fnExactOpenFrameWrong)

/-- 'laws.FnCutFile': WHATEVER THE INPUT: true; the input reads as it did. -/
def fnCutFileSpec : ChangeSpec := { name := "fnCutFile", fn := fun _ => fun
  | [d] => { results := [.lit (.bool true)], args := [d] }
  | _ => none }
def fnCutFileRow : OpenClaim := { program := "ytieadaglkibjbaa", sum := "5eb8d9267c317117f93170bd3381f59028303a8fe5eb742a8a598c26394e0ba7", func := "loop.example/g00043/laws.FnCutFile", spec := "fnCutFile", unfollowed := true, recurses := true, apart := false }
def FnCutFileSaid : Prop := fnCutFileRow.holds Try.pinned (OpenSpec.ofChange fnCutFileSpec)

/-- ITS FALSE NEIGHBOUR: 'it returns false'. Refute it at one input. -/
def fnCutFileWrong : ChangeSpec := { name := "fnCutFile", fn := fun _ => fun
  | [d] => { results := [.lit (.bool false)], args := [d] }
  | _ => none }
def FnCutFileWrongFalsely : Prop := fnCutFileRow.holds Try.pinned (OpenSpec.ofChange fnCutFileWrong)

/-- 'laws.FnExactSeek': WHATEVER THE INPUT: true; the input reads as it did. -/
def fnExactSeekSpec : ChangeSpec := { name := "fnExactSeek", fn := fun _ => fun
  | [d1, d2] => { results := [.lit (.bool true)], args := [d1, d2] }
  | _ => none }
def fnExactSeekRow : OpenClaim := { program := "ytieadaglkibjbaa", sum := "5eb8d9267c317117f93170bd3381f59028303a8fe5eb742a8a598c26394e0ba7", func := "loop.example/g00043/laws.FnExactSeek", spec := "fnExactSeek", unfollowed := true, recurses := true, apart := false }
def FnExactSeekSaid : Prop := fnExactSeekRow.holds Try.pinned (OpenSpec.ofChange fnExactSeekSpec)

/-- ITS FALSE NEIGHBOUR: 'it returns false'. Refute it at one input. -/
def fnExactSeekWrong : ChangeSpec := { name := "fnExactSeek", fn := fun _ => fun
  | [d1, d2] => { results := [.lit (.bool false)], args := [d1, d2] }
  | _ => none }
def FnExactSeekWrongFalsely : Prop := fnExactSeekRow.holds Try.pinned (OpenSpec.ofChange fnExactSeekWrong)

/-- 'laws.FnFiled': WHATEVER THE INPUT: true; the input reads as it did. -/
def fnFiledSpec : ChangeSpec := { name := "fnFiled", fn := fun _ => fun
  | [d] => { results := [.lit (.bool true)], args := [d] }
  | _ => none }
def fnFiledRow : OpenClaim := { program := "ytieadaglkibjbaa", sum := "5eb8d9267c317117f93170bd3381f59028303a8fe5eb742a8a598c26394e0ba7", func := "loop.example/g00043/laws.FnFiled", spec := "fnFiled", unfollowed := true, recurses := true, apart := false }
def FnFiledSaid : Prop := fnFiledRow.holds Try.pinned (OpenSpec.ofChange fnFiledSpec)

/-- ITS FALSE NEIGHBOUR: 'it returns false'. Refute it at one input. -/
def fnFiledWrong : ChangeSpec := { name := "fnFiled", fn := fun _ => fun
  | [d] => { results := [.lit (.bool false)], args := [d] }
  | _ => none }
def FnFiledWrongFalsely : Prop := fnFiledRow.holds Try.pinned (OpenSpec.ofChange fnFiledWrong)

/-- 'laws.FnExactOpenAll': WHATEVER THE INPUT: true; the input reads as it did. -/
def fnExactOpenAllSpec : ChangeSpec := { name := "fnExactOpenAll", fn := fun _ => fun
  | [d] => { results := [.lit (.bool true)], args := [d] }
  | _ => none }
def fnExactOpenAllRow : OpenClaim := { program := "ytieadaglkibjbaa", sum := "5eb8d9267c317117f93170bd3381f59028303a8fe5eb742a8a598c26394e0ba7", func := "loop.example/g00043/laws.FnExactOpenAll", spec := "fnExactOpenAll", unfollowed := true, recurses := true, apart := false }
def FnExactOpenAllSaid : Prop := fnExactOpenAllRow.holds Try.pinned (OpenSpec.ofChange fnExactOpenAllSpec)

/-- ITS FALSE NEIGHBOUR: 'it returns false'. Refute it at one input. -/
def fnExactOpenAllWrong : ChangeSpec := { name := "fnExactOpenAll", fn := fun _ => fun
  | [d] => { results := [.lit (.bool false)], args := [d] }
  | _ => none }
def FnExactOpenAllWrongFalsely : Prop := fnExactOpenAllRow.holds Try.pinned (OpenSpec.ofChange fnExactOpenAllWrong)

/- THE SECOND FORM. 'bulk': how many values and letters a reading holds, each counted each time it is reached (what is shared counts as often as it is met; a slice's spare places count too). A statement '..UptoSaid' is the law's where the arguments, and the package variables that the reading takes, are together of bulk at most 1048576: NARROWER than '..Said'. Prove '..Said' where nothing that the law and all that it calls make is longer than what came in: it says more and counts as full. Else prove '..UptoSaid'. A law counts once. -/
mutual
def uptoBulk {H : Type} : DataW H → Nat
  | .lit (.string bytes) => bytes.length + 1
  | .lit _ => 1
  | .nil => 1
  | .ptr d => uptoBulk d + 1
  | .slice elems spare => uptoBulkAll elems + uptoBulkAll spare + 1
  | .agg parts => uptoBulkAll parts + 1
  | .iface _ d => uptoBulk d + 1
  | .map entries => uptoBulkEntries entries + 1
  | .held _ => 1
def uptoBulkAll {H : Type} : List (DataW H) → Nat
  | [] => 0
  | d :: r => uptoBulk d + uptoBulkAll r
def uptoBulkEntries {H : Type} : List (Lit × DataW H) → Nat
  | [] => 0
  | x :: r => uptoBulkEntry x + uptoBulkEntries r
def uptoBulkEntry {H : Type} : Lit × DataW H → Nat
  | (.string bytes, d) => bytes.length + uptoBulk d + 1
  | (_, d) => uptoBulk d + 1
 end
def uptoSmall : (H : Type) → List (DataW H) → Bool := fun _ ds => decide (uptoBulkAll ds ≤ 1048576)
def OpenSpec.upto (s : _root_.Go.ChangeSpec) : _root_.Go.OpenSpec := { _root_.Go.OpenSpec.ofChange s with cond := some uptoSmall }

/-- 'laws.FnGuessed', WHERE WHAT IT READS IS OF BULK AT MOST 1048576: true; the input reads as it did. -/
def fnGuessedUptoRow : OpenClaim := { program := "ytieadaglkibjbaa", sum := "5eb8d9267c317117f93170bd3381f59028303a8fe5eb742a8a598c26394e0ba7", func := "loop.example/g00043/laws.FnGuessed", spec := "fnGuessed", unfollowed := true, recurses := true, apart := false, narrowed := true }
def FnGuessedUptoSaid : Prop := fnGuessedUptoRow.holds Try.pinned (OpenSpec.upto fnGuessedSpec)

/-- 'laws.FnLikeliest', WHERE WHAT IT READS IS OF BULK AT MOST 1048576: true; the input reads as it did. -/
def fnLikeliestUptoRow : OpenClaim := { program := "ytieadaglkibjbaa", sum := "5eb8d9267c317117f93170bd3381f59028303a8fe5eb742a8a598c26394e0ba7", func := "loop.example/g00043/laws.FnLikeliest", spec := "fnLikeliest", unfollowed := true, recurses := true, apart := false, narrowed := true }
def FnLikeliestUptoSaid : Prop := fnLikeliestUptoRow.holds Try.pinned (OpenSpec.upto fnLikeliestSpec)

/-- 'laws.FnExactLikeliest', WHERE WHAT IT READS IS OF BULK AT MOST 1048576: true; the input reads as it did. -/
def fnExactLikeliestUptoRow : OpenClaim := { program := "ytieadaglkibjbaa", sum := "5eb8d9267c317117f93170bd3381f59028303a8fe5eb742a8a598c26394e0ba7", func := "loop.example/g00043/laws.FnExactLikeliest", spec := "fnExactLikeliest", unfollowed := true, recurses := true, apart := false, narrowed := true }
def FnExactLikeliestUptoSaid : Prop := fnExactLikeliestUptoRow.holds Try.pinned (OpenSpec.upto fnExactLikeliestSpec)

/-- 'laws.FnScored', WHERE WHAT IT READS IS OF BULK AT MOST 1048576: true; the input reads as it did. -/
def fnScoredUptoRow : OpenClaim := { program := "ytieadaglkibjbaa", sum := "5eb8d9267c317117f93170bd3381f59028303a8fe5eb742a8a598c26394e0ba7", func := "loop.example/g00043/laws.FnScored", spec := "fnScored", unfollowed := true, recurses := true, apart := false, narrowed := true }
def FnScoredUptoSaid : Prop := fnScoredUptoRow.holds Try.pinned (OpenSpec.upto fnScoredSpec)

/-- 'laws.FnExactPackFrame', WHERE WHAT IT READS IS OF BULK AT MOST 1048576: true; the input reads as it did. -/
def fnExactPackFrameUptoRow : OpenClaim := { program := "ytieadaglkibjbaa", sum := "5eb8d9267c317117f93170bd3381f59028303a8fe5eb742a8a598c26394e0ba7", func := "loop.example/g00043/laws.FnExactPackFrame", spec := "fnExactPackFrame", unfollowed := true, recurses := true, apart := false, narrowed := true }
def FnExactPackFrameUptoSaid : Prop := fnExactPackFrameUptoRow.holds Try.pinned (OpenSpec.upto fnExactPackFrameSpec)

/-- 'laws.FnExactPackAll', WHERE WHAT IT READS IS OF BULK AT MOST 1048576: true; the input reads as it did. -/
def fnExactPackAllUptoRow : OpenClaim := { program := "ytieadaglkibjbaa", sum := "5eb8d9267c317117f93170bd3381f59028303a8fe5eb742a8a598c26394e0ba7", func := "loop.example/g00043/laws.FnExactPackAll", spec := "fnExactPackAll", unfollowed := true, recurses := true, apart := false, narrowed := true }
def FnExactPackAllUptoSaid : Prop := fnExactPackAllUptoRow.holds Try.pinned (OpenSpec.upto fnExactPackAllSpec)

/-- 'laws.FnFrameHurt', WHERE WHAT IT READS IS OF BULK AT MOST 1048576: true; the input reads as it did. -/
def fnFrameHurtUptoRow : OpenClaim := { program := "ytieadaglkibjbaa", sum := "5eb8d9267c317117f93170bd3381f59028303a8fe5eb742a8a598c26394e0ba7", func := "loop.example/g00043/laws.FnFrameHurt", spec := "fnFrameHurt", unfollowed := true, recurses := true, apart := false, narrowed := true }
def FnFrameHurtUptoSaid : Prop := fnFrameHurtUptoRow.holds Try.pinned (OpenSpec.upto fnFrameHurtSpec)

/-- 'laws.FnExactOpenFrame', WHERE WHAT IT READS IS OF BULK AT MOST 1048576: true; the input reads as it did. -/
def fnExactOpenFrameUptoRow : OpenClaim := { program := "ytieadaglkibjbaa", sum := "5eb8d9267c317117f93170bd3381f59028303a8fe5eb742a8a598c26394e0ba7", func := "loop.example/g00043/laws.FnExactOpenFrame", spec := "fnExactOpenFrame", unfollowed := true, recurses := true, apart := false, narrowed := true }
def FnExactOpenFrameUptoSaid : Prop := fnExactOpenFrameUptoRow.holds Try.pinned (OpenSpec.upto fnExactOpenFrameSpec)

/-- 'laws.FnCutFile', WHERE WHAT IT READS IS OF BULK AT MOST 1048576: true; the input reads as it did. -/
def fnCutFileUptoRow : OpenClaim := { program := "ytieadaglkibjbaa", sum := "5eb8d9267c317117f93170bd3381f59028303a8fe5eb742a8a598c26394e0ba7", func := "loop.example/g00043/laws.FnCutFile", spec := "fnCutFile", unfollowed := true, recurses := true, apart := false, narrowed := true }
def FnCutFileUptoSaid : Prop := fnCutFileUptoRow.holds Try.pinned (OpenSpec.upto fnCutFileSpec)

/-- 'laws.FnExactSeek', WHERE WHAT IT READS IS OF BULK AT MOST 1048576: true; the input reads as it did. -/
def fnExactSeekUptoRow : OpenClaim := { program := "ytieadaglkibjbaa", sum := "5eb8d9267c317117f93170bd3381f59028303a8fe5eb742a8a598c26394e0ba7", func := "loop.example/g00043/laws.FnExactSeek", spec := "fnExactSeek", unfollowed := true, recurses := true, apart := false, narrowed := true }
def FnExactSeekUptoSaid : Prop := fnExactSeekUptoRow.holds Try.pinned (OpenSpec.upto fnExactSeekSpec)

/-- 'laws.FnFiled', WHERE WHAT IT READS IS OF BULK AT MOST 1048576: true; the input reads as it did. -/
def fnFiledUptoRow : OpenClaim := { program := "ytieadaglkibjbaa", sum := "5eb8d9267c317117f93170bd3381f59028303a8fe5eb742a8a598c26394e0ba7", func := "loop.example/g00043/laws.FnFiled", spec := "fnFiled", unfollowed := true, recurses := true, apart := false, narrowed := true }
def FnFiledUptoSaid : Prop := fnFiledUptoRow.holds Try.pinned (OpenSpec.upto fnFiledSpec)

/-- 'laws.FnExactOpenAll', WHERE WHAT IT READS IS OF BULK AT MOST 1048576: true; the input reads as it did. -/
def fnExactOpenAllUptoRow : OpenClaim := { program := "ytieadaglkibjbaa", sum := "5eb8d9267c317117f93170bd3381f59028303a8fe5eb742a8a598c26394e0ba7", func := "loop.example/g00043/laws.FnExactOpenAll", spec := "fnExactOpenAll", unfollowed := true, recurses := true, apart := false, narrowed := true }
def FnExactOpenAllUptoSaid : Prop := fnExactOpenAllUptoRow.holds Try.pinned (OpenSpec.upto fnExactOpenAllSpec)

end Rows
end Go.Proofs.Ytieadaglkibjbaa
