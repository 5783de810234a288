-- Written by a turned copy of the print (see the notes of this repo): plain functions and their walks. Lean checks it.
import Derived.Test.YtpphjbogijjnpaaPFnExactTurnBitsx0
namespace Go.Proofs.Ytpphjbogijjnpaa.PFnExactTurnBits
open Go.RowKit Go.Proofs.YtpphjbogijjnpaaW.PrintWords Go.Proofs.YtpphjbogijjnpaaW.PrintLast Go.Proofs.YtpphjbogijjnpaaW.PrintMore
attribute [local go_sem] max2_int min2_int max_two min_two max_three min_three max_four min_four   -- for this text's walks alone
set_option linter.unusedVariables false
set_option linter.unusedSimpArgs false

/-! ### slices_Max_int_int: function 41 -/
def maxOne (a b : Int) : Int := if a < b then b else a
def slices_Max_int_int.f (l0 : List Int) : Option Int := if 0 < l0.length then some ((l0.drop 1).foldl maxOne (rd l0 0)) else none
set_option maxHeartbeats 4000000 in
set_option maxRecDepth 100000 in
theorem slices_Max_int_int.calls (A0 : Option Addr) (c0 : Nat) (l0 : List Int) (r : Int) (w : World) (hr0 : Kd.C (Kd.int .i64) w A0 l0.length l0) (hc0 : l0.length ≤ c0) (h : slices_Max_int_int.f l0 = some r) :
    Calls Try.prog 41 #[.slice A0 l0.length c0] w fun e w' => e = .returned (.int .i64 r) ∧ Drawn0 w w' := by
  have HL : 0 < l0.length ∧ (l0.drop 1).foldl maxOne (rd l0 0) = r := by
    unfold slices_Max_int_int.f at h
    split at h
    · exact ⟨by assumption, Option.some.inj h⟩
    · cases h
  obtain ⟨hl, hr⟩ := HL
  have HL := Aside0.mk hl
  have H0 := Aside0.mk hr
  have HR := Aside0.mk hr0
  have HM := Aside0.mk hr0.2.1
  clear hr0 h hr
  have hlt1 : decide ((l0.length : Int) < 1) = false := decide_eq_false (by omega)
  obtain ⟨ad, rfl, hx0⟩ := Kd.at_int HR.out 0 (by omega) (by omega)
  have hx1 : w.cell? ad = some (.int .i64 (rd l0 0)) := by
    rw [← show ad.add 0 = ad by cases ad; rfl]
    exact hx0
  have p0 := eq_true (show (0 : Int) ≤ 0 by omega)
  have q0 := eq_true (show (0 : Int) < (l0.length : Int) by omega)
  have q0b := eq_true (show 0 < l0.length from hl)
  clear hl
  go_enter Try.func41, Try.ntmps41
  go_wp2
  (try simp only [Act.put, List.setIfInBounds_toArray, List.set_cons_zero, List.set_cons_succ])
  go_loopw [3, 4] (fun v3 v4 w' => ∃ (m i : Int), v3 = .int .i64 m ∧ v4 = .int .i64 i ∧ Aside0 (1 ≤ i ∧ i ≤ (l0.length : Int)) ∧ Aside0 ((l0.drop i.toNat).foldl maxOne m = r) ∧ w = w') (fun _ v _ => l0.length - (match v with | .int _ n => n.toNat | _ => 0))
  case atStart => exact ⟨_, 1, rfl, rfl, ⟨by have := HL.out; omega⟩, H0, rfl⟩
  case round =>
    clear H0 p0 q0 q0b hx0 hx1 hlt1
    obtain ⟨m, i, rfl, rfl, HI, HA, rfl⟩ := hrel
    by_cases hi : i < (l0.length : Int)
    · have hlt : decide (i < (l0.length : Int)) = true := decide_eq_true hi
      obtain ⟨ad2, e2, hx⟩ := Kd.at_int HR.out i (by have := HI.out; omega) hi
      cases e2
      have p1 := eq_true (show (0 : Int) ≤ i by have := HI.out; omega)
      have q1 := eq_true hi
      have HQ := Aside0.mk hi
      have hw : wrap64 (i + 1) = i + 1 := by have := HI.out; have := HM.out; unfold wrap64; omega
      have HW := Aside0.mk hw
      have hd : l0.drop i.toNat = rd l0 i :: l0.drop (i + 1).toNat := by
        have h1 : i.toNat < l0.length := by have := HI.out; omega
        rw [List.drop_eq_getElem_cons h1, show (i + 1).toNat = i.toNat + 1 by have := HI.out; omega]
        simp [rd, List.getD_eq_getElem?_getD, h1]
      have HD := Aside0.mk hd
      clear hi hw hd
      go_wp2
      go_roundw
      case rel => exact ⟨maxOne m (rd l0 i), i + 1, by first | rfl | (unfold maxOne; rfl) | (simp; done), by first | rfl | rw [HW.out], ⟨by have := HI.out; have := HQ.out; omega⟩, ⟨by have h := HA.out; rw [HD.out] at h; exact h⟩, by first | rfl | trivial⟩
      case measure => have := HI.out; have := HQ.out; have := HW.out; first | (simp only [this]; omega) | (simp; omega) | omega
    · have hlt : decide (i < (l0.length : Int)) = false := decide_eq_false hi
      have HQ := Aside0.mk hi
      clear hi
      go_wp2
      go_ret
      have he := HA.out
      rw [List.drop_eq_nil_of_le (by have := HI.out; have := HQ.out; omega)] at he
      obtain rfl : m = r := he
      exact ⟨rfl, Drawn0.refl _⟩


end Go.Proofs.Ytpphjbogijjnpaa.PFnExactTurnBits
