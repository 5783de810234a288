import Derived.Test.YtbllkldpipmalaaPFnExactQtyOkx1
import Derived.Test.YtbllkldpipmalaaAid
set_option linter.unusedVariables false
set_option linter.unusedSimpArgs false
namespace Go.Proofs.Ytbllkldpipmalaa.Pure
open Go Go.RowKit Go.Proofs.Ytbllkldpipmalaa.PFnExactQtyOk Go.Proofs.YtbllkldpipmalaaW.PrintWords Go.Proofs.YtbllkldpipmalaaW.PrintLast Go.Proofs.YtbllkldpipmalaaW.PrintMore
def qtyB (n p v s : Int) : Bool := decide ((-1000000000 ≤ n ∧ n ≤ 1000000000) ∧ (n % 10 ≠ 0 ∨ n = 0 ∧ p = 0) ∧ (-30 ≤ p ∧ p ≤ 30) ∧ (-9 ≤ v ∧ v ≤ 9) ∧ (-9 ≤ s ∧ s ≤ 9))
theorem tmod10 (n : Int) : Int.tmod n 10 = 0 ↔ n % 10 = 0 := by
  rw [← Int.dvd_iff_emod_eq_zero, ← Int.dvd_iff_tmod_eq_zero]
theorem l1In_eq (a b c : Int) : spec_l1In.f a b c = some (decide (b ≤ a) && decide (a ≤ c)) := by
  unfold spec_l1In.f
  by_cases h : a ≥ b
  · rw [if_pos h]; simp [show b ≤ a from h]
  · rw [if_neg h]; simp [show ¬ b ≤ a from h]
theorem l5Sample_eq (a : Int) : spec_l5Sample.f a = some (decide (-1000000000 ≤ a ∧ a ≤ 1000000000)) := by unfold spec_l5Sample.f; rw [l1In_eq]; simp
theorem sQtyOk_ev (n p v s : Int) : Ev (fun k => spec_QtyOk.f k n p v s) (qtyB n p v s) := by
  have bad : Ev (fun k => spec_QtyOk.j0 k true n p v s) false := by
    refine Ev.succ ?_
    simp only [spec_QtyOk.j0]
    exact Ev.pos trivial (Ev.some_ rfl)
  unfold spec_QtyOk.f
  simp only [l5Sample_eq, l1In_eq, Option.bind_some]
  by_cases h1 : -1000000000 ≤ n ∧ n ≤ 1000000000
  · refine Ev.pos (by simp [h1]) ?_
    by_cases h2 : -9 ≤ v ∧ v ≤ 9
    · refine Ev.pos (by simp [h2]) ?_
      by_cases h3 : -9 ≤ s ∧ s ≤ 9
      · refine Ev.pos (by simp [h3]) ?_
        by_cases h4 : -30 ≤ p ∧ p ≤ 30
        · rw [show (!(decide (-30 ≤ p) && decide (p ≤ 30))) = false by simp [h4]]
          refine Ev.succ ?_
          simp only [spec_QtyOk.j0]
          refine Ev.neg (by simp) ?_
          by_cases h5 : n = 0
          · exact Ev.pos h5 (Ev.some_ (by unfold qtyB; rw [Bool.eq_iff_iff]; simp; omega))
          · refine Ev.neg h5 (Ev.some_ ?_)
            have := tmod10 n
            unfold qtyB; rw [Bool.eq_iff_iff]; simp; omega
        · rw [show (!(decide (-30 ≤ p) && decide (p ≤ 30))) = true by simp; omega]
          exact bad.to (by unfold qtyB; symm; simp; omega)
      · exact Ev.neg (by simp; omega) (bad.to (by unfold qtyB; symm; simp; omega))
    · exact Ev.neg (by simp; omega) (bad.to (by unfold qtyB; symm; simp; omega))
  · exact Ev.neg (by simp; omega) (bad.to (by unfold qtyB; symm; simp; omega))
theorem to_eq (a b c : Int) : impl_to.f a b c = some (decide (b ≤ a) && decide (a ≤ c)) := by
  unfold impl_to.f
  by_cases h : a ≥ b
  · rw [if_pos h]; simp [show b ≤ a from h]
  · rw [if_neg h]; simp [show ¬ b ≤ a from h]
theorem sample_eq (a : Int) : impl_sample.f a = some (decide (-1000000000 ≤ a ∧ a ≤ 1000000000)) := by
  unfold impl_sample.f
  by_cases h : a ≥ -1000000000 <;> simp [h]
theorem iQtyOk_eq (n p v s : Int) : impl_QtyOk.f n p v s = some (qtyB n p v s) := by
  unfold impl_QtyOk.f
  simp only [sample_eq, to_eq, Option.bind_some]
  have h10 := tmod10 n
  have fin : (if (decide (-30 ≤ p) && decide (p ≤ 30)) = true then (if (decide (-9 ≤ v) && decide (v ≤ 9)) = true then some (decide (-9 ≤ s) && decide (s ≤ 9)) else some false) else some false) = some (decide ((-30 ≤ p ∧ p ≤ 30) ∧ (-9 ≤ v ∧ v ≤ 9) ∧ (-9 ≤ s ∧ s ≤ 9))) := by
    by_cases h1 : -30 ≤ p ∧ p ≤ 30
    · rw [if_pos (by simp [h1])]
      by_cases h2 : -9 ≤ v ∧ v ≤ 9
      · rw [if_pos (by simp [h2])]; simp [h1, h2]
      · rw [if_neg (by simp; omega)]; symm; simp; omega
    · rw [if_neg (by simp; omega)]; symm; simp; omega
  rw [fin]
  unfold qtyB
  by_cases h1 : -1000000000 ≤ n ∧ n ≤ 1000000000
  · rw [if_pos (by simp [h1])]
    by_cases h2 : Int.tmod n 10 = 0
    · rw [if_pos h2]
      by_cases h3 : n = 0
      · rw [if_pos h3]
        by_cases h4 : p = 0
        · rw [if_pos h4, Option.some.injEq, decide_eq_decide]; omega
        · rw [if_neg h4, Option.some.injEq]; symm; simp only [decide_eq_false_iff_not]; omega
      · rw [if_neg h3, Option.some.injEq]; symm; simp only [decide_eq_false_iff_not]; omega
    · rw [if_neg h2, Option.some.injEq, decide_eq_decide]; omega
  · rw [if_neg (by simp; omega), Option.some.injEq]; symm; simp only [decide_eq_false_iff_not]; omega
theorem FnExactQtyOk (a0_0 : Int) (a0_1 : Int) (a0_2 : Int) (a0_3 : Int) (w0_0 : (Lit.int .i64 a0_0).wf = true) (w0_1 : (Lit.int .i64 a0_1).wf = true) (w0_2 : (Lit.int .i64 a0_2).wf = true) (w0_3 : (Lit.int .i64 a0_3).wf = true) : ∃ k, laws_FnExactQtyOk.f k a0_0 a0_1 a0_2 a0_3 = some true := by
  refine Ev.rounds ?_
  unfold laws_FnExactQtyOk.f laws_toQty.f
  simp only [Option.bind_some, iQtyOk_eq]
  exact Ev.next (sQtyOk_ev _ _ _ _) (Ev.neg (by simp) (Ev.some_ rfl))
end Go.Proofs.Ytbllkldpipmalaa.Pure
