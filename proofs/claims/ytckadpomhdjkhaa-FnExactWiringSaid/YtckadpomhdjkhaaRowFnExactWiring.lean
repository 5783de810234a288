/- The law FnExactWiring answers true for every value of its parameters; no condition beside what they are. -/
import Derived.Test.YtckadpomhdjkhaaRows
import Derived.Test.YtckadpomhdjkhaaPFnExactWiringx12
import Derived.Test.YtckadpomhdjkhaaPureFnExactWiring
import Derived.Test.YtckadpomhdjkhaaDecV
import Derived.WalkKit
import Derived.ProofKit
import Derived.OpenShut
import Derived.ShutString
import Derived.ChangeOld
import Derived.Below
import Derived.SizedLaws
namespace Go.Proofs.Ytckadpomhdjkhaa.fnExactWiring
open Go.ChangeShapes Go.WideShapes Go.ChangeAt Go.RowKit Go.Proofs.YtckadpomhdjkhaaW.PrintWords
open Go.ChangeMaps (open_string shut_string)
set_option linter.unusedVariables false
set_option linter.unusedSimpArgs false
theorem own : ownKnob Try.prog.godebug = none := by kernel_rfl
theorem laidOut : laidOutB Try.prog = true := by kernel_rfl
set_option maxRecDepth 100000 in
theorem lifted (os : Os) (started : os.Started) (H : Type) (enc : TypeId × Value → H) :
    ReturnsInHanded {} Try.checked os 6 .any (Rows.fnExactWiringSpec.pre6 enc Try.prog Try.f6 Rows.fnExactWiringRow.domain false) (Rows.fnExactWiringSpec.post enc Try.prog Try.f6 false true false false) := by
  refine returnsInHanded_of_change_sized (C := Try.checked) own started (by kernel_rfl) Try.func6
    (ChangeSpec.witness6 (enc := enc) (C := Try.checked) false ⟨#[], #[.agg #[.slice none 0 0, .slice none 0 0]], []⟩ 8 (by kernel_rfl) (by kernel_rfl) (by kernel_rfl) (by kernel_rfl)) ?_
  intro W base args ds gs before hval0 hW hcnd hsz0 _
  have hval : ∀ (j : Nat) t v, Try.f6.params[j]? = some t → args[j]? = some v → Value.okWide Try.prog W .any base t v := hval0
  have hW' := hW
  obtain ⟨p, q, hA0, hV, rfl, hfz, hnd⟩ := hW
  have hA : DataW.TrodAll enc Try.prog W 0 (fun _ => true) true Try.f6.params.toList args.toList ds p := hA0
  rw [Try.params6] at hA hval
  obtain ⟨v0, vs0, d0, ds0, p0, q0, hargs, rfl, rfl, h0, r0⟩ := trodAll_cons hA
  obtain ⟨rfl, rfl, rfl⟩ := trodAll_nil r0
  obtain rfl : args = #[v0] := by cases args; simp_all
  obtain ⟨rfl, rfl⟩ := trodVars_none hV
  have k0 := h0
  have lt0 : ∀ x ∈ p0, x.block < W.heap.size := by obtain ⟨m, hm⟩ := k0; exact DataW.trod_lt m _ _ _ hm
  obtain ⟨cs0, x0, rfl, K0, W0⟩ := Dec.arg_struct Try.underlying40 (Dec.struct Try.underlying40 (by kernel_rfl) (DecF.cons rfl (by kernel_rfl) (Dec.slice (e' := 126) Try.underlying37 (by kernel_rfl) (Dec.iso (f := fun x : PFnExactWiring.S126 => (x.f0, x.f1, x.f2)) (fun x => (⟨x.1, x.2.1, x.2.2⟩ : PFnExactWiring.S126)) (fun _ => rfl) (Dec.struct Try.underlying126 (by kernel_rfl) (DecF.cons rfl (by kernel_rfl) (Dec.string Try.underlying9) (DecF.cons rfl (by kernel_rfl) (Dec.int Try.underlying3) (DecF.last rfl (by kernel_rfl) (Dec.int Try.underlying3))))))) (DecF.last rfl (by kernel_rfl) (Dec.slice (e' := 130) Try.underlying38 (by kernel_rfl) (Dec.iso (f := fun x : PFnExactWiring.S130 => (x.f0, x.f1)) (fun x => (⟨x.1, x.2⟩ : PFnExactWiring.S130)) (fun _ => rfl) (Dec.struct Try.underlying130 (by kernel_rfl) (DecF.cons rfl (by kernel_rfl) (Dec.int Try.underlying3) (DecF.last rfl (by kernel_rfl) (Dec.int Try.underlying3))))))))) (hval 0 40 v0 rfl rfl) h0
  obtain ⟨_, _, hcs0, ⟨A0_0, cap0_0, rfl, c0_0, r0_0⟩, ⟨A0_1, cap0_1, rfl, c0_1, r0_1⟩⟩ := K0
  simp only [List.cons_append, List.nil_append] at hcs0
  obtain ⟨cs0⟩ := cs0
  simp only at hcs0
  subst hcs0
  clear hA0 hval0 hsz0
  obtain ⟨k, h⟩ := Pure.FnExactWiring _ _ W0.1.1 W0.1.2 W0.2.1 W0.2.2
  refine (PFnExactWiring.laws_FnExactWiring.calls k A0_0 cap0_0 x0.1 A0_1 cap0_1 x0.2 true W r0_0 c0_0 r0_1 c0_1 rfl h).mono fun e W' ⟨he, bel⟩ => ?_
  subst he
  exact ⟨_, rfl, _, _, _, [], _, [], hW', trodAll_mk1 (shut_bool Try.underlying4 _), (trodAll_cons_mk (Below.trod laidOut (by kernel_rfl) (of_decide_eq_true (by kernel_rfl)) k0 bel lt0) trodAll_mk0), rfl, bel.frame _, fun h => by cases h⟩
theorem over : Rows.fnExactWiringRow.holds Try.pinned (OpenSpec.ofChange Rows.fnExactWiringSpec) :=
  OpenClaim.holds_of_wide 6 Try.f6 rfl rfl rfl rfl rfl rfl rfl ⟨rfl, rfl, rfl, rfl, rfl⟩ rfl rfl rfl rfl rfl (by kernel_rfl) Try.func6 (by kernel_rfl)
    (of_decide_eq_true (by kernel_rfl)) (by unfold Func.isWrapper; first | (rw [if_pos (by decide +kernel)]; kernel_rfl) | (rw [if_neg (by decide +kernel)]; exact ⟨rfl, rfl⟩))
    (fun os started H enc _ => lifted os started H enc)
theorem proved : Rows.FnExactWiringSaid := over
#print axioms proved
end Go.Proofs.Ytckadpomhdjkhaa.fnExactWiring
namespace Go.Proofs.Ytckadpomhdjkhaa
theorem fnExactWiring_holds : Rows.FnExactWiringSaid := fnExactWiring.proved
end Go.Proofs.Ytckadpomhdjkhaa
