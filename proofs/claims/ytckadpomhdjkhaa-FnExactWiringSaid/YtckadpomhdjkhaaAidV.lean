import Derived.RowKit
import Derived.WalkKit
import Derived.Test.YtckadpomhdjkhaaVWords
import Derived.Test.YtckadpomhdjkhaaVLast
import Derived.Test.YtckadpomhdjkhaaVTab
import Derived.Test.YtckadpomhdjkhaaVFour
import Derived.Test.YtckadpomhdjkhaaVQPut
import Derived.Test.YtckadpomhdjkhaaVApart
import Derived.Test.YtckadpomhdjkhaaVArr
import Derived.Test.YtckadpomhdjkhaaVZeros
import Derived.Test.YtckadpomhdjkhaaVFoot
import Derived.Test.YtckadpomhdjkhaaVKept
import Derived.Test.YtckadpomhdjkhaaVShare
import Derived.Test.YtckadpomhdjkhaaVN
import Derived.Test.YtckadpomhdjkhaaVFootNe
import Derived.Test.YtckadpomhdjkhaaVAt
import Derived.Test.YtckadpomhdjkhaaVEqStruct
import Derived.Test.YtckadpomhdjkhaaVRepsOne
import Derived.Test.YtckadpomhdjkhaaVInv
import Derived.Test.YtckadpomhdjkhaaVInvWords
import Derived.Test.YtckadpomhdjkhaaVGuard
import Derived.Test.YtckadpomhdjkhaaVNEv
import Derived.Test.YtckadpomhdjkhaaVMore
/-! Words for the plain laws. -/
set_option linter.unusedVariables false
set_option linter.unusedSimpArgs false
namespace Go.Proofs.YtckadpomhdjkhaaW.PrintWords
open Go Go.RowKit Go.Proofs.YtckadpomhdjkhaaW.PrintLast Go.Proofs.YtckadpomhdjkhaaW.PrintMore
/-! Small words for the plain laws: rounds, wrapping, lists read by an index. -/
section
variable {α β : Type}
theorem Ev.pos {c : Prop} [Decidable c] {f g : Nat → Option α} {r : α} (h : c) (H : Ev f r) : Ev (fun k => if c then f k else g k) r := by
  obtain ⟨K, hK⟩ := H
  exact ⟨K, fun k hk => (if_pos h).trans (hK k hk)⟩
theorem Ev.neg {c : Prop} [Decidable c] {f g : Nat → Option α} {r : α} (h : ¬ c) (H : Ev g r) : Ev (fun k => if c then f k else g k) r := by
  obtain ⟨K, hK⟩ := H
  exact ⟨K, fun k hk => (if_neg h).trans (hK k hk)⟩
theorem Ev.both {c : Prop} [Decidable c] {f g : Nat → Option α} {r : α} (H : c → Ev f r) (H' : ¬ c → Ev g r) : Ev (fun k => if c then f k else g k) r := by
  by_cases h : c
  · exact Ev.pos h (H h)
  · exact Ev.neg h (H' h)
theorem Ev.some_ {x r : α} (h : x = r) : Ev (fun _ => some x) r := ⟨0, fun _ _ => by rw [h]⟩
theorem Ev.here {o : Option α} {r : α} (h : o = some r) : Ev (fun _ => o) r := ⟨0, fun _ _ => h⟩
theorem Ev.to {g : Nat → Option α} {r s : α} (H : Ev g r) (h : r = s) : Ev g s := h ▸ H
theorem Ev.next {g : Nat → Option α} {o : α → Nat → Option β} {a : α} {r : β} (h : Ev g a) (k : Ev (o a) r) : Ev (fun n => (g n).bind fun x => o x n) r := Ev.bind (f := fun n x => o x n) h k
end
theorem w64 {n : Int} (h0 : -9223372036854775808 ≤ n) (h1 : n ≤ 9223372036854775807) : wrap64 n = n := by unfold wrap64; omega
theorem take_set_end {α : Type} {acc : List α} {i : Nat} (h : i < acc.length) (v : α) : (acc.set i v).take (i + 1) = acc.take i ++ [v] := by
  apply List.ext_getElem
  · simp; omega
  · intro j h1 h2
    simp only [List.length_append, List.length_take, List.length_cons, List.length_nil] at h2
    rw [List.getElem_take, List.getElem_set, List.getElem_append]
    by_cases hj : j = i
    · subst hj; simp; intro; omega
    · have : j < i := by omega
      simp [Ne.symm hj]; intro; omega
section
variable {α β : Type}
theorem Ev.succ {g : Nat → Option α} {r : α} (H : Ev (fun k => g (k + 1)) r) : Ev g r := Ev.step (fun _ => rfl) H
def EvP (g : Nat → Option α) (P : α → Prop) : Prop := ∃ r, Ev g r ∧ P r
theorem EvP.succ {g : Nat → Option α} {P : α → Prop} (H : EvP (fun k => g (k + 1)) P) : EvP g P := by
  obtain ⟨r, h, hp⟩ := H
  exact ⟨r, Ev.succ h, hp⟩
theorem EvP.next {g : Nat → Option α} {o : α → Nat → Option β} {P : α → Prop} {Q : β → Prop} (H : EvP g P) (K : ∀ a, P a → EvP (o a) Q) : EvP (fun n => (g n).bind fun x => o x n) Q := by
  obtain ⟨a, h, hp⟩ := H
  obtain ⟨r, h2, hq⟩ := K a hp
  exact ⟨r, Ev.next h h2, hq⟩
theorem EvP.pos {c : Prop} [Decidable c] {f g : Nat → Option α} {P : α → Prop} (h : c) (H : EvP f P) : EvP (fun k => if c then f k else g k) P := by
  obtain ⟨r, h2, hp⟩ := H
  exact ⟨r, Ev.pos h h2, hp⟩
theorem EvP.neg {c : Prop} [Decidable c] {f g : Nat → Option α} {P : α → Prop} (h : ¬ c) (H : EvP g P) : EvP (fun k => if c then f k else g k) P := by
  obtain ⟨r, h2, hp⟩ := H
  exact ⟨r, Ev.neg h h2, hp⟩
theorem EvP.both {c : Prop} [Decidable c] {f g : Nat → Option α} {P : α → Prop} (H : c → EvP f P) (H' : ¬ c → EvP g P) : EvP (fun k => if c then f k else g k) P := by
  by_cases h : c
  · exact EvP.pos h (H h)
  · exact EvP.neg h (H' h)
theorem EvP.mono {g : Nat → Option α} {P Q : α → Prop} (H : EvP g P) (h : ∀ r, P r → Q r) : EvP g Q := by
  obtain ⟨r, h2, hp⟩ := H
  exact ⟨r, h2, h r hp⟩
end
end Go.Proofs.YtckadpomhdjkhaaW.PrintWords
