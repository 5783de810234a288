import Derived.Test.YtbllkldpipmalaaPFnExactBudgetx1
import Derived.Test.YtbllkldpipmalaaAid
set_option linter.unusedVariables false
set_option linter.unusedSimpArgs false
namespace Go.Proofs.Ytbllkldpipmalaa.Pure
open Go Go.RowKit Go.Proofs.Ytbllkldpipmalaa.PFnExactBudget Go.Proofs.YtbllkldpipmalaaW.PrintWords Go.Proofs.YtbllkldpipmalaaW.PrintLast Go.Proofs.YtbllkldpipmalaaW.PrintMore
def widthB (a : Int) : Bool := decide (a = 2 ∨ a = 4 ∨ a = 6 ∨ a = 8)
def inB (a b c : Int) : Bool := decide (b ≤ a) && decide (a ≤ c)
theorem inB_iff {a b c : Int} : inB a b c = true ↔ b ≤ a ∧ a ≤ c := by unfold inB; simp
def modemB (w m r s ra si : Int) : Bool := widthB w && inB m 1 8 && inB r 1 64 && inB s 1 65535 && inB ra 1 8 && inB si 1 10000
theorem modemB_iff {w m r s ra si : Int} : modemB w m r s ra si = true ↔ (w = 2 ∨ w = 4 ∨ w = 6 ∨ w = 8) ∧ (1 ≤ m ∧ m ≤ 8) ∧ (1 ≤ r ∧ r ≤ 64) ∧ (1 ≤ s ∧ s ≤ 65535) ∧ (1 ≤ ra ∧ ra ≤ 8) ∧ (1 ≤ si ∧ si ≤ 10000) := by
  unfold modemB; simp only [Bool.and_eq_true, inB_iff, widthB, decide_eq_true_eq, and_assoc]
theorem l1In_eq (a b c : Int) : spec_l1In.f a b c = some (decide (b ≤ a) && decide (a ≤ c)) := by
  unfold spec_l1In.f
  by_cases h : a ≥ b
  · rw [if_pos h]; simp [show b ≤ a from h]
  · rw [if_neg h]; simp [show ¬ b ≤ a from h]
theorem l13Width_eq (a : Int) : spec_l13Width.f a = some (widthB a) := by
  unfold spec_l13Width.f widthB
  by_cases h2 : a = 2
  · simp [h2]
  · by_cases h4 : a = 4
    · simp [h4]
    · by_cases h6 : a = 6
      · simp [h6]
      · simp only [if_neg h2, if_neg h4, if_neg h6, Option.some.injEq]
        by_cases h8 : a = 8 <;> simp [h2, h4, h6, h8]
theorem l14Mend_eq (a : Int) : spec_l14Mend.f a = some (inB a 1 8) := by unfold spec_l14Mend.f inB; rw [l1In_eq]; rfl
theorem sModemOk_eq (w m r s ra si : Int) : spec_ModemOk.f w m r s ra si = some (modemB w m r s ra si) := by
  unfold spec_ModemOk.f modemB
  have e : ∀ a b c : Int, spec_l1In.f a b c = some (inB a b c) := l1In_eq
  simp only [l13Width_eq, l14Mend_eq, e, Option.bind_some]
  cases widthB w <;> cases inB m 1 8 <;> cases inB r 1 64 <;> cases inB s 1 65535 <;> cases inB ra 1 8 <;> rfl
def budgetOf (w m r s ra si : Int) : Int × Int := if modemB w m r s ra si = true then ((si - 1) / 2, m / w) else (0, 0)
theorem sBudget_eq (w m r s ra si : Int) : spec_Budget.f w m r s ra si = some (budgetOf w m r s ra si) := by
  unfold spec_Budget.f budgetOf
  rw [sModemOk_eq]
  simp only [Option.bind_some]
  by_cases h : modemB w m r s ra si = true
  · rw [if_pos h, if_pos h]
    obtain ⟨h1, h2, h3, h4, h5, h6⟩ := modemB_iff.1 h
    rw [if_neg (by omega), w64 (n := si - 1) (by omega) (by omega), Int.tdiv_eq_ediv_of_nonneg (by omega), Int.tdiv_eq_ediv_of_nonneg (by omega), w64 (by omega) (by omega)]
    rcases h1 with rfl | rfl | rfl | rfl <;> rw [w64 (by omega) (by omega)]
  · rw [if_neg h, if_neg h]
theorem isWidth_eq (a : Int) : impl_isWidth.f a = some (widthB a) := by
  unfold impl_isWidth.f widthB
  by_cases h2 : a = 2
  · simp [h2]
  · by_cases h4 : a = 4
    · simp [h4]
    · by_cases h6 : a = 6
      · simp [h6]
      · simp only [if_neg h2, if_neg h4, if_neg h6, Option.some.injEq]
        by_cases h8 : a = 8 <;> simp [h2, h4, h6, h8]
theorem isMend_eq (a : Int) : impl_isMend.f a = some (inB a 1 8) := by
  unfold impl_isMend.f inB
  by_cases h : a ≥ 1 <;> simp [h]
theorem is16_eq (a b : Int) : impl_is16.f a b = some (inB a b 65535) := by
  unfold impl_is16.f inB
  by_cases h : a ≥ b <;> simp [h]
theorem two_if {a b c : Int} {o : Option Bool} : (if a ≥ b then (if a ≤ c then o else some false) else some false) = (if inB a b c = true then o else some false) := by
  unfold inB
  by_cases h : a ≥ b <;> by_cases h2 : a ≤ c <;> simp [h, h2]
theorem iModemOk_eq (w m r s ra si : Int) : impl_ModemOk.f w m r s ra si = some (modemB w m r s ra si) := by
  unfold impl_ModemOk.f modemB
  simp only [isWidth_eq, isMend_eq, is16_eq, Option.bind_some, two_if]
  have e : (if si ≥ 1 then some (decide (si ≤ 10000)) else some false) = some (inB si 1 10000) := by
    unfold inB
    by_cases h : si ≥ 1 <;> simp [h]
  rw [e]
  cases widthB w <;> cases inB m 1 8 <;> cases inB r 1 64 <;> cases inB s 1 65535 <;> cases inB ra 1 8 <;> rfl
theorem iBudget_eq (w m r s ra si : Int) : impl_Budget.f w m r s ra si = some (budgetOf w m r s ra si) := by
  unfold impl_Budget.f budgetOf
  rw [iModemOk_eq]
  simp only [Option.bind_some]
  by_cases h : modemB w m r s ra si = true
  · rw [if_pos h, if_pos h]
    obtain ⟨h1, h2, h3, h4, h5, h6⟩ := modemB_iff.1 h
    rw [if_neg (by omega), w64 (n := si - 1) (by omega) (by omega), Int.tdiv_eq_ediv_of_nonneg (by omega), Int.tdiv_eq_ediv_of_nonneg (by omega), w64 (by omega) (by omega)]
    rcases h1 with rfl | rfl | rfl | rfl <;> rw [w64 (by omega) (by omega)]
  · rw [if_neg h, if_neg h]
theorem FnExactBudget (a0_0 : Int) (a0_1 : Int) (a0_2 : Int) (a0_3 : Int) (a0_4 : Int) (a0_5 : Int) (w0_0 : (Lit.int .i64 a0_0).wf = true) (w0_1 : (Lit.int .i64 a0_1).wf = true) (w0_2 : (Lit.int .i64 a0_2).wf = true) (w0_3 : (Lit.int .i64 a0_3).wf = true) (w0_4 : (Lit.int .i64 a0_4).wf = true) (w0_5 : (Lit.int .i64 a0_5).wf = true) : laws_FnExactBudget.f a0_0 a0_1 a0_2 a0_3 a0_4 a0_5 = some true := by
  unfold laws_FnExactBudget.f laws_toModem.f
  simp only [Option.bind_some, sBudget_eq, iBudget_eq]
  simp
end Go.Proofs.Ytbllkldpipmalaa.Pure
