-- Written by a turned copy of the print (see the notes of this repo): plain functions and their walks. Lean checks it.
import Derived.Test.YtckadpomhdjkhaaPFnExactWiringx0
import Derived.Test.YtckadpomhdjkhaaPFnExactWiringx3
namespace Go.Proofs.Ytckadpomhdjkhaa.PFnExactWiring
open Go.RowKit Go.Proofs.YtckadpomhdjkhaaW.PrintWords Go.Proofs.YtckadpomhdjkhaaW.PrintLast Go.Proofs.YtckadpomhdjkhaaW.PrintMore
attribute [local go_sem] max2_int min2_int max_two min_two max_three min_three max_four min_four   -- for this text's walks alone
set_option linter.unusedVariables false
set_option linter.unusedSimpArgs false

/-! ### spec_l20Letter: function 133 -/
def spec_l20Letter.f (a0 : Int) : Option (Bool) := if a0 ≥ 65 then (if a0 ≤ 90 then (some true) else (if a0 ≥ 97 then (if a0 ≤ 122 then (some true) else ((spec_l1In.f a0 192 591).bind fun t161 => (if t161 = true then (if a0 = 215 then ((spec_l1In.f a0 913 969).bind fun t162 => (if t162 = true then (some (a0 != 930)) else (some false))) else (if a0 = 247 then ((spec_l1In.f a0 913 969).bind fun t163 => (if t163 = true then (some (a0 != 930)) else (some false))) else (some true))) else ((spec_l1In.f a0 913 969).bind fun t164 => (if t164 = true then (some (a0 != 930)) else (some false)))))) else ((spec_l1In.f a0 192 591).bind fun t165 => (if t165 = true then (if a0 = 215 then ((spec_l1In.f a0 913 969).bind fun t166 => (if t166 = true then (some (a0 != 930)) else (some false))) else (if a0 = 247 then ((spec_l1In.f a0 913 969).bind fun t167 => (if t167 = true then (some (a0 != 930)) else (some false))) else (some true))) else ((spec_l1In.f a0 913 969).bind fun t168 => (if t168 = true then (some (a0 != 930)) else (some false))))))) else (if a0 ≥ 97 then (if a0 ≤ 122 then (some true) else ((spec_l1In.f a0 192 591).bind fun t169 => (if t169 = true then (if a0 = 215 then ((spec_l1In.f a0 913 969).bind fun t170 => (if t170 = true then (some (a0 != 930)) else (some false))) else (if a0 = 247 then ((spec_l1In.f a0 913 969).bind fun t171 => (if t171 = true then (some (a0 != 930)) else (some false))) else (some true))) else ((spec_l1In.f a0 913 969).bind fun t172 => (if t172 = true then (some (a0 != 930)) else (some false)))))) else ((spec_l1In.f a0 192 591).bind fun t173 => (if t173 = true then (if a0 = 215 then ((spec_l1In.f a0 913 969).bind fun t174 => (if t174 = true then (some (a0 != 930)) else (some false))) else (if a0 = 247 then ((spec_l1In.f a0 913 969).bind fun t175 => (if t175 = true then (some (a0 != 930)) else (some false))) else (some true))) else ((spec_l1In.f a0 913 969).bind fun t176 => (if t176 = true then (some (a0 != 930)) else (some false))))))
set_option maxHeartbeats 8000000 in
set_option maxRecDepth 100000 in
theorem spec_l20Letter.calls (a0 : Int) (r : Bool) (w : World) (h : spec_l20Letter.f a0 = some r) :
 Calls Try.prog 133 #[.int .i64 a0] w fun e w' => e = .returned (.bool r) ∧ Drawn0 w w' := by
 have H : (if a0 ≥ 65 then (if a0 ≤ 90 then (some true) else (if a0 ≥ 97 then (if a0 ≤ 122 then (some true) else ((spec_l1In.f a0 192 591).bind fun t161 => (if t161 = true then (if a0 = 215 then ((spec_l1In.f a0 913 969).bind fun t162 => (if t162 = true then (some (a0 != 930)) else (some false))) else (if a0 = 247 then ((spec_l1In.f a0 913 969).bind fun t163 => (if t163 = true then (some (a0 != 930)) else (some false))) else (some true))) else ((spec_l1In.f a0 913 969).bind fun t164 => (if t164 = true then (some (a0 != 930)) else (some false)))))) else ((spec_l1In.f a0 192 591).bind fun t165 => (if t165 = true then (if a0 = 215 then ((spec_l1In.f a0 913 969).bind fun t166 => (if t166 = true then (some (a0 != 930)) else (some false))) else (if a0 = 247 then ((spec_l1In.f a0 913 969).bind fun t167 => (if t167 = true then (some (a0 != 930)) else (some false))) else (some true))) else ((spec_l1In.f a0 913 969).bind fun t168 => (if t168 = true then (some (a0 != 930)) else (some false))))))) else (if a0 ≥ 97 then (if a0 ≤ 122 then (some true) else ((spec_l1In.f a0 192 591).bind fun t169 => (if t169 = true then (if a0 = 215 then ((spec_l1In.f a0 913 969).bind fun t170 => (if t170 = true then (some (a0 != 930)) else (some false))) else (if a0 = 247 then ((spec_l1In.f a0 913 969).bind fun t171 => (if t171 = true then (some (a0 != 930)) else (some false))) else (some true))) else ((spec_l1In.f a0 913 969).bind fun t172 => (if t172 = true then (some (a0 != 930)) else (some false)))))) else ((spec_l1In.f a0 192 591).bind fun t173 => (if t173 = true then (if a0 = 215 then ((spec_l1In.f a0 913 969).bind fun t174 => (if t174 = true then (some (a0 != 930)) else (some false))) else (if a0 = 247 then ((spec_l1In.f a0 913 969).bind fun t175 => (if t175 = true then (some (a0 != 930)) else (some false))) else (some true))) else ((spec_l1In.f a0 913 969).bind fun t176 => (if t176 = true then (some (a0 != 930)) else (some false))))))) = some r := h
 clear h
 by_cases c2 : a0 ≥ 65
 case neg =>
  rw [if_neg c2] at H
  have c2b0 : decide (65 ≤ a0) = false := decide_eq_false c2
  clear c2
  by_cases c26 : a0 ≥ 97
  case neg =>
   rw [if_neg c26] at H
   have c26b0 : decide (97 ≤ a0) = false := decide_eq_false c26
   clear c26
   replace H := zO.mp H
   obtain ⟨t173, A380, H⟩ := H
   replace H : (if t173 = true then (if a0 = 215 then ((spec_l1In.f a0 913 969).bind fun t174 => (if t174 = true then (some (a0 != 930)) else (some false))) else (if a0 = 247 then ((spec_l1In.f a0 913 969).bind fun t175 => (if t175 = true then (some (a0 != 930)) else (some false))) else (some true))) else ((spec_l1In.f a0 913 969).bind fun t176 => (if t176 = true then (some (a0 != 930)) else (some false)))) = some r := H
   have A38 := zM A380
   clear A380
   by_cases c39 : t173 = true
   case neg =>
    replace c39 := Bool.eq_false_iff.mpr c39
    subst c39
    have H1 : ((spec_l1In.f a0 913 969).bind fun t176 => (if t176 = true then (some (a0 != 930)) else (some false))) = some r := by rw [if_neg (show ¬ (false = true) by decide)] at H; exact H
    clear H
    have H := H1
    clear H1
    replace H := zO.mp H
    obtain ⟨t176, A460, H⟩ := H
    replace H : (if t176 = true then (some (a0 != 930)) else (some false)) = some r := H
    have A46 := zM A460
    clear A460
    by_cases c47 : t176 = true
    case pos =>
     subst c47
     have H1 : (some (a0 != 930)) = some r := by rw [if_pos rfl] at H; exact H
     clear H
     have H := H1
     clear H1
     obtain rfl := zI H
     go_enter Try.func133, Try.ntmps133
     go_wp2_with (first | (go_at_call 48; (with_reducible refine (spec_l1In.calls a0 192 591 false _ A38.out).mono ?_); rintro e w' ⟨rfl, ⟨nd, rfl⟩⟩) | (go_at_call 48; (with_reducible refine (spec_l1In.calls a0 913 969 true _ A46.out).mono ?_); rintro e w' ⟨rfl, ⟨nd, rfl⟩⟩))
     go_ret
     exact ⟨by first | rfl | (simp; done) | (simp [*]; done), by repeat (first | exact Drawn0.refl _ | apply Drawn0.step)⟩
    replace c47 := Bool.eq_false_iff.mpr c47
    subst c47
    have H1 : (some false) = some r := by rw [if_neg (show ¬ (false = true) by decide)] at H; exact H
    clear H
    have H := H1
    clear H1
    obtain rfl := zI H
    go_enter Try.func133, Try.ntmps133
    go_wp2_with (first | (go_at_call 48; (with_reducible refine (spec_l1In.calls a0 192 591 false _ A38.out).mono ?_); rintro e w' ⟨rfl, ⟨nd, rfl⟩⟩) | (go_at_call 48; (with_reducible refine (spec_l1In.calls a0 913 969 false _ A46.out).mono ?_); rintro e w' ⟨rfl, ⟨nd, rfl⟩⟩))
    go_ret
    exact ⟨by first | rfl | (simp; done) | (simp [*]; done), by repeat (first | exact Drawn0.refl _ | apply Drawn0.step)⟩
   subst c39
   have H1 : (if a0 = 215 then ((spec_l1In.f a0 913 969).bind fun t174 => (if t174 = true then (some (a0 != 930)) else (some false))) else (if a0 = 247 then ((spec_l1In.f a0 913 969).bind fun t175 => (if t175 = true then (some (a0 != 930)) else (some false))) else (some true))) = some r := by rw [if_pos rfl] at H; exact H
   clear H
   have H := H1
   clear H1
   by_cases c40 : a0 = 215
   case pos =>
    rw [if_pos c40] at H
    have c40b0 : (a0 == 215) = true := beq_iff_eq.mpr c40
    have c40b1 : (a0 != 215) = false := bne_eq_false_iff_eq.mpr c40
    clear c40
    replace H := zO.mp H
    obtain ⟨t174, A410, H⟩ := H
    replace H : (if t174 = true then (some (a0 != 930)) else (some false)) = some r := H
    have A41 := zM A410
    clear A410
    by_cases c42 : t174 = true
    case pos =>
     subst c42
     have H1 : (some (a0 != 930)) = some r := by rw [if_pos rfl] at H; exact H
     clear H
     have H := H1
     clear H1
     obtain rfl := zI H
     go_enter Try.func133, Try.ntmps133
     go_wp2_with (first | (go_at_call 48; (with_reducible refine (spec_l1In.calls a0 192 591 true _ A38.out).mono ?_); rintro e w' ⟨rfl, ⟨nd, rfl⟩⟩) | (go_at_call 48; (with_reducible refine (spec_l1In.calls a0 913 969 true _ A41.out).mono ?_); rintro e w' ⟨rfl, ⟨nd, rfl⟩⟩))
     go_ret
     exact ⟨by first | rfl | (simp; done) | (simp [*]; done), by repeat (first | exact Drawn0.refl _ | apply Drawn0.step)⟩
    replace c42 := Bool.eq_false_iff.mpr c42
    subst c42
    have H1 : (some false) = some r := by rw [if_neg (show ¬ (false = true) by decide)] at H; exact H
    clear H
    have H := H1
    clear H1
    obtain rfl := zI H
    go_enter Try.func133, Try.ntmps133
    go_wp2_with (first | (go_at_call 48; (with_reducible refine (spec_l1In.calls a0 192 591 true _ A38.out).mono ?_); rintro e w' ⟨rfl, ⟨nd, rfl⟩⟩) | (go_at_call 48; (with_reducible refine (spec_l1In.calls a0 913 969 false _ A41.out).mono ?_); rintro e w' ⟨rfl, ⟨nd, rfl⟩⟩))
    go_ret
    exact ⟨by first | rfl | (simp; done) | (simp [*]; done), by repeat (first | exact Drawn0.refl _ | apply Drawn0.step)⟩
   rw [if_neg c40] at H
   have c40b0 : (a0 == 215) = false := beq_eq_false_iff_ne.mpr c40
   have c40b1 : (a0 != 215) = true := bne_iff_ne.mpr c40
   by_cases c43 : a0 = 247
   case neg =>
    rw [if_neg c43] at H
    have c43b0 : (a0 == 247) = false := beq_eq_false_iff_ne.mpr c43
    have c43b1 : (a0 != 247) = true := bne_iff_ne.mpr c43
    obtain rfl := zI H
    go_enter Try.func133, Try.ntmps133
    go_wp2_with (first | (go_at_call 48; (with_reducible refine (spec_l1In.calls a0 192 591 true _ A38.out).mono ?_); rintro e w' ⟨rfl, ⟨nd, rfl⟩⟩))
    go_ret
    exact ⟨by first | rfl | (simp; done) | (simp [*]; done), by repeat (first | exact Drawn0.refl _ | apply Drawn0.step)⟩
   rw [if_pos c43] at H
   have c43b0 : (a0 == 247) = true := beq_iff_eq.mpr c43
   have c43b1 : (a0 != 247) = false := bne_eq_false_iff_eq.mpr c43
   clear c43
   replace H := zO.mp H
   obtain ⟨t175, A440, H⟩ := H
   replace H : (if t175 = true then (some (a0 != 930)) else (some false)) = some r := H
   have A44 := zM A440
   clear A440
   by_cases c45 : t175 = true
   case pos =>
    subst c45
    have H1 : (some (a0 != 930)) = some r := by rw [if_pos rfl] at H; exact H
    clear H
    have H := H1
    clear H1
    obtain rfl := zI H
    go_enter Try.func133, Try.ntmps133
    go_wp2_with (first | (go_at_call 48; (with_reducible refine (spec_l1In.calls a0 192 591 true _ A38.out).mono ?_); rintro e w' ⟨rfl, ⟨nd, rfl⟩⟩) | (go_at_call 48; (with_reducible refine (spec_l1In.calls a0 913 969 true _ A44.out).mono ?_); rintro e w' ⟨rfl, ⟨nd, rfl⟩⟩))
    go_ret
    exact ⟨by first | rfl | (simp; done) | (simp [*]; done), by repeat (first | exact Drawn0.refl _ | apply Drawn0.step)⟩
   replace c45 := Bool.eq_false_iff.mpr c45
   subst c45
   have H1 : (some false) = some r := by rw [if_neg (show ¬ (false = true) by decide)] at H; exact H
   clear H
   have H := H1
   clear H1
   obtain rfl := zI H
   go_enter Try.func133, Try.ntmps133
   go_wp2_with (first | (go_at_call 48; (with_reducible refine (spec_l1In.calls a0 192 591 true _ A38.out).mono ?_); rintro e w' ⟨rfl, ⟨nd, rfl⟩⟩) | (go_at_call 48; (with_reducible refine (spec_l1In.calls a0 913 969 false _ A44.out).mono ?_); rintro e w' ⟨rfl, ⟨nd, rfl⟩⟩))
   go_ret
   exact ⟨by first | rfl | (simp; done) | (simp [*]; done), by repeat (first | exact Drawn0.refl _ | apply Drawn0.step)⟩
  rw [if_pos c26] at H
  have c26b0 : decide (97 ≤ a0) = true := zE c26
  clear c26
  by_cases c27 : a0 ≤ 122
  case pos =>
   rw [if_pos c27] at H
   have c27b0 : decide (a0 ≤ 122) = true := zE c27
   clear c27
   obtain rfl := zI H
   go_enter Try.func133, Try.ntmps133
   go_wp2
   go_ret
   exact ⟨by first | rfl | (simp; done) | (simp [*]; done), by repeat (first | exact Drawn0.refl _ | apply Drawn0.step)⟩
  rw [if_neg c27] at H
  have c27b0 : decide (a0 ≤ 122) = false := decide_eq_false c27
  clear c27
  replace H := zO.mp H
  obtain ⟨t169, A280, H⟩ := H
  replace H : (if t169 = true then (if a0 = 215 then ((spec_l1In.f a0 913 969).bind fun t170 => (if t170 = true then (some (a0 != 930)) else (some false))) else (if a0 = 247 then ((spec_l1In.f a0 913 969).bind fun t171 => (if t171 = true then (some (a0 != 930)) else (some false))) else (some true))) else ((spec_l1In.f a0 913 969).bind fun t172 => (if t172 = true then (some (a0 != 930)) else (some false)))) = some r := H
  have A28 := zM A280
  clear A280
  by_cases c29 : t169 = true
  case neg =>
   replace c29 := Bool.eq_false_iff.mpr c29
   subst c29
   have H1 : ((spec_l1In.f a0 913 969).bind fun t172 => (if t172 = true then (some (a0 != 930)) else (some false))) = some r := by rw [if_neg (show ¬ (false = true) by decide)] at H; exact H
   clear H
   have H := H1
   clear H1
   replace H := zO.mp H
   obtain ⟨t172, A360, H⟩ := H
   replace H : (if t172 = true then (some (a0 != 930)) else (some false)) = some r := H
   have A36 := zM A360
   clear A360
   by_cases c37 : t172 = true
   case pos =>
    subst c37
    have H1 : (some (a0 != 930)) = some r := by rw [if_pos rfl] at H; exact H
    clear H
    have H := H1
    clear H1
    obtain rfl := zI H
    go_enter Try.func133, Try.ntmps133
    go_wp2_with (first | (go_at_call 48; (with_reducible refine (spec_l1In.calls a0 192 591 false _ A28.out).mono ?_); rintro e w' ⟨rfl, ⟨nd, rfl⟩⟩) | (go_at_call 48; (with_reducible refine (spec_l1In.calls a0 913 969 true _ A36.out).mono ?_); rintro e w' ⟨rfl, ⟨nd, rfl⟩⟩))
    go_ret
    exact ⟨by first | rfl | (simp; done) | (simp [*]; done), by repeat (first | exact Drawn0.refl _ | apply Drawn0.step)⟩
   replace c37 := Bool.eq_false_iff.mpr c37
   subst c37
   have H1 : (some false) = some r := by rw [if_neg (show ¬ (false = true) by decide)] at H; exact H
   clear H
   have H := H1
   clear H1
   obtain rfl := zI H
   go_enter Try.func133, Try.ntmps133
   go_wp2_with (first | (go_at_call 48; (with_reducible refine (spec_l1In.calls a0 192 591 false _ A28.out).mono ?_); rintro e w' ⟨rfl, ⟨nd, rfl⟩⟩) | (go_at_call 48; (with_reducible refine (spec_l1In.calls a0 913 969 false _ A36.out).mono ?_); rintro e w' ⟨rfl, ⟨nd, rfl⟩⟩))
   go_ret
   exact ⟨by first | rfl | (simp; done) | (simp [*]; done), by repeat (first | exact Drawn0.refl _ | apply Drawn0.step)⟩
  subst c29
  have H1 : (if a0 = 215 then ((spec_l1In.f a0 913 969).bind fun t170 => (if t170 = true then (some (a0 != 930)) else (some false))) else (if a0 = 247 then ((spec_l1In.f a0 913 969).bind fun t171 => (if t171 = true then (some (a0 != 930)) else (some false))) else (some true))) = some r := by rw [if_pos rfl] at H; exact H
  clear H
  have H := H1
  clear H1
  by_cases c30 : a0 = 215
  case pos =>
   rw [if_pos c30] at H
   have c30b0 : (a0 == 215) = true := beq_iff_eq.mpr c30
   have c30b1 : (a0 != 215) = false := bne_eq_false_iff_eq.mpr c30
   clear c30
   replace H := zO.mp H
   obtain ⟨t170, A310, H⟩ := H
   replace H : (if t170 = true then (some (a0 != 930)) else (some false)) = some r := H
   have A31 := zM A310
   clear A310
   by_cases c32 : t170 = true
   case pos =>
    subst c32
    have H1 : (some (a0 != 930)) = some r := by rw [if_pos rfl] at H; exact H
    clear H
    have H := H1
    clear H1
    obtain rfl := zI H
    go_enter Try.func133, Try.ntmps133
    go_wp2_with (first | (go_at_call 48; (with_reducible refine (spec_l1In.calls a0 192 591 true _ A28.out).mono ?_); rintro e w' ⟨rfl, ⟨nd, rfl⟩⟩) | (go_at_call 48; (with_reducible refine (spec_l1In.calls a0 913 969 true _ A31.out).mono ?_); rintro e w' ⟨rfl, ⟨nd, rfl⟩⟩))
    go_ret
    exact ⟨by first | rfl | (simp; done) | (simp [*]; done), by repeat (first | exact Drawn0.refl _ | apply Drawn0.step)⟩
   replace c32 := Bool.eq_false_iff.mpr c32
   subst c32
   have H1 : (some false) = some r := by rw [if_neg (show ¬ (false = true) by decide)] at H; exact H
   clear H
   have H := H1
   clear H1
   obtain rfl := zI H
   go_enter Try.func133, Try.ntmps133
   go_wp2_with (first | (go_at_call 48; (with_reducible refine (spec_l1In.calls a0 192 591 true _ A28.out).mono ?_); rintro e w' ⟨rfl, ⟨nd, rfl⟩⟩) | (go_at_call 48; (with_reducible refine (spec_l1In.calls a0 913 969 false _ A31.out).mono ?_); rintro e w' ⟨rfl, ⟨nd, rfl⟩⟩))
   go_ret
   exact ⟨by first | rfl | (simp; done) | (simp [*]; done), by repeat (first | exact Drawn0.refl _ | apply Drawn0.step)⟩
  rw [if_neg c30] at H
  have c30b0 : (a0 == 215) = false := beq_eq_false_iff_ne.mpr c30
  have c30b1 : (a0 != 215) = true := bne_iff_ne.mpr c30
  by_cases c33 : a0 = 247
  case neg =>
   rw [if_neg c33] at H
   have c33b0 : (a0 == 247) = false := beq_eq_false_iff_ne.mpr c33
   have c33b1 : (a0 != 247) = true := bne_iff_ne.mpr c33
   obtain rfl := zI H
   go_enter Try.func133, Try.ntmps133
   go_wp2_with (first | (go_at_call 48; (with_reducible refine (spec_l1In.calls a0 192 591 true _ A28.out).mono ?_); rintro e w' ⟨rfl, ⟨nd, rfl⟩⟩))
   go_ret
   exact ⟨by first | rfl | (simp; done) | (simp [*]; done), by repeat (first | exact Drawn0.refl _ | apply Drawn0.step)⟩
  rw [if_pos c33] at H
  have c33b0 : (a0 == 247) = true := beq_iff_eq.mpr c33
  have c33b1 : (a0 != 247) = false := bne_eq_false_iff_eq.mpr c33
  clear c33
  replace H := zO.mp H
  obtain ⟨t171, A340, H⟩ := H
  replace H : (if t171 = true then (some (a0 != 930)) else (some false)) = some r := H
  have A34 := zM A340
  clear A340
  by_cases c35 : t171 = true
  case pos =>
   subst c35
   have H1 : (some (a0 != 930)) = some r := by rw [if_pos rfl] at H; exact H
   clear H
   have H := H1
   clear H1
   obtain rfl := zI H
   go_enter Try.func133, Try.ntmps133
   go_wp2_with (first | (go_at_call 48; (with_reducible refine (spec_l1In.calls a0 192 591 true _ A28.out).mono ?_); rintro e w' ⟨rfl, ⟨nd, rfl⟩⟩) | (go_at_call 48; (with_reducible refine (spec_l1In.calls a0 913 969 true _ A34.out).mono ?_); rintro e w' ⟨rfl, ⟨nd, rfl⟩⟩))
   go_ret
   exact ⟨by first | rfl | (simp; done) | (simp [*]; done), by repeat (first | exact Drawn0.refl _ | apply Drawn0.step)⟩
  replace c35 := Bool.eq_false_iff.mpr c35
  subst c35
  have H1 : (some false) = some r := by rw [if_neg (show ¬ (false = true) by decide)] at H; exact H
  clear H
  have H := H1
  clear H1
  obtain rfl := zI H
  go_enter Try.func133, Try.ntmps133
  go_wp2_with (first | (go_at_call 48; (with_reducible refine (spec_l1In.calls a0 192 591 true _ A28.out).mono ?_); rintro e w' ⟨rfl, ⟨nd, rfl⟩⟩) | (go_at_call 48; (with_reducible refine (spec_l1In.calls a0 913 969 false _ A34.out).mono ?_); rintro e w' ⟨rfl, ⟨nd, rfl⟩⟩))
  go_ret
  exact ⟨by first | rfl | (simp; done) | (simp [*]; done), by repeat (first | exact Drawn0.refl _ | apply Drawn0.step)⟩
 rw [if_pos c2] at H
 have c2b0 : decide (65 ≤ a0) = true := zE c2
 clear c2
 by_cases c3 : a0 ≤ 90
 case pos =>
  rw [if_pos c3] at H
  have c3b0 : decide (a0 ≤ 90) = true := zE c3
  clear c3
  obtain rfl := zI H
  go_enter Try.func133, Try.ntmps133
  go_wp2
  go_ret
  exact ⟨by first | rfl | (simp; done) | (simp [*]; done), by repeat (first | exact Drawn0.refl _ | apply Drawn0.step)⟩
 rw [if_neg c3] at H
 have c3b0 : decide (a0 ≤ 90) = false := decide_eq_false c3
 clear c3
 by_cases c4 : a0 ≥ 97
 case neg =>
  rw [if_neg c4] at H
  have c4b0 : decide (97 ≤ a0) = false := decide_eq_false c4
  clear c4
  replace H := zO.mp H
  obtain ⟨t165, A160, H⟩ := H
  replace H : (if t165 = true then (if a0 = 215 then ((spec_l1In.f a0 913 969).bind fun t166 => (if t166 = true then (some (a0 != 930)) else (some false))) else (if a0 = 247 then ((spec_l1In.f a0 913 969).bind fun t167 => (if t167 = true then (some (a0 != 930)) else (some false))) else (some true))) else ((spec_l1In.f a0 913 969).bind fun t168 => (if t168 = true then (some (a0 != 930)) else (some false)))) = some r := H
  have A16 := zM A160
  clear A160
  by_cases c17 : t165 = true
  case neg =>
   replace c17 := Bool.eq_false_iff.mpr c17
   subst c17
   have H1 : ((spec_l1In.f a0 913 969).bind fun t168 => (if t168 = true then (some (a0 != 930)) else (some false))) = some r := by rw [if_neg (show ¬ (false = true) by decide)] at H; exact H
   clear H
   have H := H1
   clear H1
   replace H := zO.mp H
   obtain ⟨t168, A240, H⟩ := H
   replace H : (if t168 = true then (some (a0 != 930)) else (some false)) = some r := H
   have A24 := zM A240
   clear A240
   by_cases c25 : t168 = true
   case pos =>
    subst c25
    have H1 : (some (a0 != 930)) = some r := by rw [if_pos rfl] at H; exact H
    clear H
    have H := H1
    clear H1
    obtain rfl := zI H
    go_enter Try.func133, Try.ntmps133
    go_wp2_with (first | (go_at_call 48; (with_reducible refine (spec_l1In.calls a0 192 591 false _ A16.out).mono ?_); rintro e w' ⟨rfl, ⟨nd, rfl⟩⟩) | (go_at_call 48; (with_reducible refine (spec_l1In.calls a0 913 969 true _ A24.out).mono ?_); rintro e w' ⟨rfl, ⟨nd, rfl⟩⟩))
    go_ret
    exact ⟨by first | rfl | (simp; done) | (simp [*]; done), by repeat (first | exact Drawn0.refl _ | apply Drawn0.step)⟩
   replace c25 := Bool.eq_false_iff.mpr c25
   subst c25
   have H1 : (some false) = some r := by rw [if_neg (show ¬ (false = true) by decide)] at H; exact H
   clear H
   have H := H1
   clear H1
   obtain rfl := zI H
   go_enter Try.func133, Try.ntmps133
   go_wp2_with (first | (go_at_call 48; (with_reducible refine (spec_l1In.calls a0 192 591 false _ A16.out).mono ?_); rintro e w' ⟨rfl, ⟨nd, rfl⟩⟩) | (go_at_call 48; (with_reducible refine (spec_l1In.calls a0 913 969 false _ A24.out).mono ?_); rintro e w' ⟨rfl, ⟨nd, rfl⟩⟩))
   go_ret
   exact ⟨by first | rfl | (simp; done) | (simp [*]; done), by repeat (first | exact Drawn0.refl _ | apply Drawn0.step)⟩
  subst c17
  have H1 : (if a0 = 215 then ((spec_l1In.f a0 913 969).bind fun t166 => (if t166 = true then (some (a0 != 930)) else (some false))) else (if a0 = 247 then ((spec_l1In.f a0 913 969).bind fun t167 => (if t167 = true then (some (a0 != 930)) else (some false))) else (some true))) = some r := by rw [if_pos rfl] at H; exact H
  clear H
  have H := H1
  clear H1
  by_cases c18 : a0 = 215
  case pos =>
   rw [if_pos c18] at H
   have c18b0 : (a0 == 215) = true := beq_iff_eq.mpr c18
   have c18b1 : (a0 != 215) = false := bne_eq_false_iff_eq.mpr c18
   clear c18
   replace H := zO.mp H
   obtain ⟨t166, A190, H⟩ := H
   replace H : (if t166 = true then (some (a0 != 930)) else (some false)) = some r := H
   have A19 := zM A190
   clear A190
   by_cases c20 : t166 = true
   case pos =>
    subst c20
    have H1 : (some (a0 != 930)) = some r := by rw [if_pos rfl] at H; exact H
    clear H
    have H := H1
    clear H1
    obtain rfl := zI H
    go_enter Try.func133, Try.ntmps133
    go_wp2_with (first | (go_at_call 48; (with_reducible refine (spec_l1In.calls a0 192 591 true _ A16.out).mono ?_); rintro e w' ⟨rfl, ⟨nd, rfl⟩⟩) | (go_at_call 48; (with_reducible refine (spec_l1In.calls a0 913 969 true _ A19.out).mono ?_); rintro e w' ⟨rfl, ⟨nd, rfl⟩⟩))
    go_ret
    exact ⟨by first | rfl | (simp; done) | (simp [*]; done), by repeat (first | exact Drawn0.refl _ | apply Drawn0.step)⟩
   replace c20 := Bool.eq_false_iff.mpr c20
   subst c20
   have H1 : (some false) = some r := by rw [if_neg (show ¬ (false = true) by decide)] at H; exact H
   clear H
   have H := H1
   clear H1
   obtain rfl := zI H
   go_enter Try.func133, Try.ntmps133
   go_wp2_with (first | (go_at_call 48; (with_reducible refine (spec_l1In.calls a0 192 591 true _ A16.out).mono ?_); rintro e w' ⟨rfl, ⟨nd, rfl⟩⟩) | (go_at_call 48; (with_reducible refine (spec_l1In.calls a0 913 969 false _ A19.out).mono ?_); rintro e w' ⟨rfl, ⟨nd, rfl⟩⟩))
   go_ret
   exact ⟨by first | rfl | (simp; done) | (simp [*]; done), by repeat (first | exact Drawn0.refl _ | apply Drawn0.step)⟩
  rw [if_neg c18] at H
  have c18b0 : (a0 == 215) = false := beq_eq_false_iff_ne.mpr c18
  have c18b1 : (a0 != 215) = true := bne_iff_ne.mpr c18
  by_cases c21 : a0 = 247
  case neg =>
   rw [if_neg c21] at H
   have c21b0 : (a0 == 247) = false := beq_eq_false_iff_ne.mpr c21
   have c21b1 : (a0 != 247) = true := bne_iff_ne.mpr c21
   obtain rfl := zI H
   go_enter Try.func133, Try.ntmps133
   go_wp2_with (first | (go_at_call 48; (with_reducible refine (spec_l1In.calls a0 192 591 true _ A16.out).mono ?_); rintro e w' ⟨rfl, ⟨nd, rfl⟩⟩))
   go_ret
   exact ⟨by first | rfl | (simp; done) | (simp [*]; done), by repeat (first | exact Drawn0.refl _ | apply Drawn0.step)⟩
  rw [if_pos c21] at H
  have c21b0 : (a0 == 247) = true := beq_iff_eq.mpr c21
  have c21b1 : (a0 != 247) = false := bne_eq_false_iff_eq.mpr c21
  clear c21
  replace H := zO.mp H
  obtain ⟨t167, A220, H⟩ := H
  replace H : (if t167 = true then (some (a0 != 930)) else (some false)) = some r := H
  have A22 := zM A220
  clear A220
  by_cases c23 : t167 = true
  case pos =>
   subst c23
   have H1 : (some (a0 != 930)) = some r := by rw [if_pos rfl] at H; exact H
   clear H
   have H := H1
   clear H1
   obtain rfl := zI H
   go_enter Try.func133, Try.ntmps133
   go_wp2_with (first | (go_at_call 48; (with_reducible refine (spec_l1In.calls a0 192 591 true _ A16.out).mono ?_); rintro e w' ⟨rfl, ⟨nd, rfl⟩⟩) | (go_at_call 48; (with_reducible refine (spec_l1In.calls a0 913 969 true _ A22.out).mono ?_); rintro e w' ⟨rfl, ⟨nd, rfl⟩⟩))
   go_ret
   exact ⟨by first | rfl | (simp; done) | (simp [*]; done), by repeat (first | exact Drawn0.refl _ | apply Drawn0.step)⟩
  replace c23 := Bool.eq_false_iff.mpr c23
  subst c23
  have H1 : (some false) = some r := by rw [if_neg (show ¬ (false = true) by decide)] at H; exact H
  clear H
  have H := H1
  clear H1
  obtain rfl := zI H
  go_enter Try.func133, Try.ntmps133
  go_wp2_with (first | (go_at_call 48; (with_reducible refine (spec_l1In.calls a0 192 591 true _ A16.out).mono ?_); rintro e w' ⟨rfl, ⟨nd, rfl⟩⟩) | (go_at_call 48; (with_reducible refine (spec_l1In.calls a0 913 969 false _ A22.out).mono ?_); rintro e w' ⟨rfl, ⟨nd, rfl⟩⟩))
  go_ret
  exact ⟨by first | rfl | (simp; done) | (simp [*]; done), by repeat (first | exact Drawn0.refl _ | apply Drawn0.step)⟩
 rw [if_pos c4] at H
 have c4b0 : decide (97 ≤ a0) = true := zE c4
 clear c4
 by_cases c5 : a0 ≤ 122
 case pos =>
  rw [if_pos c5] at H
  have c5b0 : decide (a0 ≤ 122) = true := zE c5
  clear c5
  obtain rfl := zI H
  go_enter Try.func133, Try.ntmps133
  go_wp2
  go_ret
  exact ⟨by first | rfl | (simp; done) | (simp [*]; done), by repeat (first | exact Drawn0.refl _ | apply Drawn0.step)⟩
 rw [if_neg c5] at H
 have c5b0 : decide (a0 ≤ 122) = false := decide_eq_false c5
 clear c5
 replace H := zO.mp H
 obtain ⟨t161, A60, H⟩ := H
 replace H : (if t161 = true then (if a0 = 215 then ((spec_l1In.f a0 913 969).bind fun t162 => (if t162 = true then (some (a0 != 930)) else (some false))) else (if a0 = 247 then ((spec_l1In.f a0 913 969).bind fun t163 => (if t163 = true then (some (a0 != 930)) else (some false))) else (some true))) else ((spec_l1In.f a0 913 969).bind fun t164 => (if t164 = true then (some (a0 != 930)) else (some false)))) = some r := H
 have A6 := zM A60
 clear A60
 by_cases c7 : t161 = true
 case neg =>
  replace c7 := Bool.eq_false_iff.mpr c7
  subst c7
  have H1 : ((spec_l1In.f a0 913 969).bind fun t164 => (if t164 = true then (some (a0 != 930)) else (some false))) = some r := by rw [if_neg (show ¬ (false = true) by decide)] at H; exact H
  clear H
  have H := H1
  clear H1
  replace H := zO.mp H
  obtain ⟨t164, A140, H⟩ := H
  replace H : (if t164 = true then (some (a0 != 930)) else (some false)) = some r := H
  have A14 := zM A140
  clear A140
  by_cases c15 : t164 = true
  case pos =>
   subst c15
   have H1 : (some (a0 != 930)) = some r := by rw [if_pos rfl] at H; exact H
   clear H
   have H := H1
   clear H1
   obtain rfl := zI H
   go_enter Try.func133, Try.ntmps133
   go_wp2_with (first | (go_at_call 48; (with_reducible refine (spec_l1In.calls a0 192 591 false _ A6.out).mono ?_); rintro e w' ⟨rfl, ⟨nd, rfl⟩⟩) | (go_at_call 48; (with_reducible refine (spec_l1In.calls a0 913 969 true _ A14.out).mono ?_); rintro e w' ⟨rfl, ⟨nd, rfl⟩⟩))
   go_ret
   exact ⟨by first | rfl | (simp; done) | (simp [*]; done), by repeat (first | exact Drawn0.refl _ | apply Drawn0.step)⟩
  replace c15 := Bool.eq_false_iff.mpr c15
  subst c15
  have H1 : (some false) = some r := by rw [if_neg (show ¬ (false = true) by decide)] at H; exact H
  clear H
  have H := H1
  clear H1
  obtain rfl := zI H
  go_enter Try.func133, Try.ntmps133
  go_wp2_with (first | (go_at_call 48; (with_reducible refine (spec_l1In.calls a0 192 591 false _ A6.out).mono ?_); rintro e w' ⟨rfl, ⟨nd, rfl⟩⟩) | (go_at_call 48; (with_reducible refine (spec_l1In.calls a0 913 969 false _ A14.out).mono ?_); rintro e w' ⟨rfl, ⟨nd, rfl⟩⟩))
  go_ret
  exact ⟨by first | rfl | (simp; done) | (simp [*]; done), by repeat (first | exact Drawn0.refl _ | apply Drawn0.step)⟩
 subst c7
 have H1 : (if a0 = 215 then ((spec_l1In.f a0 913 969).bind fun t162 => (if t162 = true then (some (a0 != 930)) else (some false))) else (if a0 = 247 then ((spec_l1In.f a0 913 969).bind fun t163 => (if t163 = true then (some (a0 != 930)) else (some false))) else (some true))) = some r := by rw [if_pos rfl] at H; exact H
 clear H
 have H := H1
 clear H1
 by_cases c8 : a0 = 215
 case pos =>
  rw [if_pos c8] at H
  have c8b0 : (a0 == 215) = true := beq_iff_eq.mpr c8
  have c8b1 : (a0 != 215) = false := bne_eq_false_iff_eq.mpr c8
  clear c8
  replace H := zO.mp H
  obtain ⟨t162, A90, H⟩ := H
  replace H : (if t162 = true then (some (a0 != 930)) else (some false)) = some r := H
  have A9 := zM A90
  clear A90
  by_cases c10 : t162 = true
  case pos =>
   subst c10
   have H1 : (some (a0 != 930)) = some r := by rw [if_pos rfl] at H; exact H
   clear H
   have H := H1
   clear H1
   obtain rfl := zI H
   go_enter Try.func133, Try.ntmps133
   go_wp2_with (first | (go_at_call 48; (with_reducible refine (spec_l1In.calls a0 192 591 true _ A6.out).mono ?_); rintro e w' ⟨rfl, ⟨nd, rfl⟩⟩) | (go_at_call 48; (with_reducible refine (spec_l1In.calls a0 913 969 true _ A9.out).mono ?_); rintro e w' ⟨rfl, ⟨nd, rfl⟩⟩))
   go_ret
   exact ⟨by first | rfl | (simp; done) | (simp [*]; done), by repeat (first | exact Drawn0.refl _ | apply Drawn0.step)⟩
  replace c10 := Bool.eq_false_iff.mpr c10
  subst c10
  have H1 : (some false) = some r := by rw [if_neg (show ¬ (false = true) by decide)] at H; exact H
  clear H
  have H := H1
  clear H1
  obtain rfl := zI H
  go_enter Try.func133, Try.ntmps133
  go_wp2_with (first | (go_at_call 48; (with_reducible refine (spec_l1In.calls a0 192 591 true _ A6.out).mono ?_); rintro e w' ⟨rfl, ⟨nd, rfl⟩⟩) | (go_at_call 48; (with_reducible refine (spec_l1In.calls a0 913 969 false _ A9.out).mono ?_); rintro e w' ⟨rfl, ⟨nd, rfl⟩⟩))
  go_ret
  exact ⟨by first | rfl | (simp; done) | (simp [*]; done), by repeat (first | exact Drawn0.refl _ | apply Drawn0.step)⟩
 rw [if_neg c8] at H
 have c8b0 : (a0 == 215) = false := beq_eq_false_iff_ne.mpr c8
 have c8b1 : (a0 != 215) = true := bne_iff_ne.mpr c8
 by_cases c11 : a0 = 247
 case neg =>
  rw [if_neg c11] at H
  have c11b0 : (a0 == 247) = false := beq_eq_false_iff_ne.mpr c11
  have c11b1 : (a0 != 247) = true := bne_iff_ne.mpr c11
  obtain rfl := zI H
  go_enter Try.func133, Try.ntmps133
  go_wp2_with (first | (go_at_call 48; (with_reducible refine (spec_l1In.calls a0 192 591 true _ A6.out).mono ?_); rintro e w' ⟨rfl, ⟨nd, rfl⟩⟩))
  go_ret
  exact ⟨by first | rfl | (simp; done) | (simp [*]; done), by repeat (first | exact Drawn0.refl _ | apply Drawn0.step)⟩
 rw [if_pos c11] at H
 have c11b0 : (a0 == 247) = true := beq_iff_eq.mpr c11
 have c11b1 : (a0 != 247) = false := bne_eq_false_iff_eq.mpr c11
 clear c11
 replace H := zO.mp H
 obtain ⟨t163, A120, H⟩ := H
 replace H : (if t163 = true then (some (a0 != 930)) else (some false)) = some r := H
 have A12 := zM A120
 clear A120
 by_cases c13 : t163 = true
 case pos =>
  subst c13
  have H1 : (some (a0 != 930)) = some r := by rw [if_pos rfl] at H; exact H
  clear H
  have H := H1
  clear H1
  obtain rfl := zI H
  go_enter Try.func133, Try.ntmps133
  go_wp2_with (first | (go_at_call 48; (with_reducible refine (spec_l1In.calls a0 192 591 true _ A6.out).mono ?_); rintro e w' ⟨rfl, ⟨nd, rfl⟩⟩) | (go_at_call 48; (with_reducible refine (spec_l1In.calls a0 913 969 true _ A12.out).mono ?_); rintro e w' ⟨rfl, ⟨nd, rfl⟩⟩))
  go_ret
  exact ⟨by first | rfl | (simp; done) | (simp [*]; done), by repeat (first | exact Drawn0.refl _ | apply Drawn0.step)⟩
 replace c13 := Bool.eq_false_iff.mpr c13
 subst c13
 have H1 : (some false) = some r := by rw [if_neg (show ¬ (false = true) by decide)] at H; exact H
 clear H
 have H := H1
 clear H1
 obtain rfl := zI H
 go_enter Try.func133, Try.ntmps133
 go_wp2_with (first | (go_at_call 48; (with_reducible refine (spec_l1In.calls a0 192 591 true _ A6.out).mono ?_); rintro e w' ⟨rfl, ⟨nd, rfl⟩⟩) | (go_at_call 48; (with_reducible refine (spec_l1In.calls a0 913 969 false _ A12.out).mono ?_); rintro e w' ⟨rfl, ⟨nd, rfl⟩⟩))
 go_ret
 exact ⟨by first | rfl | (simp; done) | (simp [*]; done), by repeat (first | exact Drawn0.refl _ | apply Drawn0.step)⟩

/-! ### spec_NodeName: function 99 -/
def spec_NodeName.l0 : Nat → ByteArray → Int → Int → Option (Bool)
 | 0, _, _, _ => none
 | k + 1, x0, x3, x4 => if x4 < (x0.size : Int) then ((spec_l20Rune.f x0 x4).bind fun bt178 => (if bt178.2 = 0 then (some false) else ((spec_l20Letter.f bt178.1).bind fun t180 => (if t180 = true then (spec_NodeName.l0 k x0 (wrap64 (x3 + 1)) (wrap64 (x4 + bt178.2))) else (if x3 = 0 then (some false) else (if bt178.1 = 95 then (spec_NodeName.l0 k x0 (wrap64 (x3 + 1)) (wrap64 (x4 + bt178.2))) else ((spec_l1In.f bt178.1 48 57).bind fun t181 => (if t181 = true then (spec_NodeName.l0 k x0 (wrap64 (x3 + 1)) (wrap64 (x4 + bt178.2))) else (some false))))))))) else ((spec_l1In.f x3 1 12).bind fun t177 => (some t177))
def spec_NodeName.f (k : Nat) (a0 : ByteArray) : Option (Bool) := spec_NodeName.l0 k a0 0 0
theorem spec_NodeName.mono_l : ∀ k, (∀ y0 y1 y2, LeO (spec_NodeName.l0 k y0 y1 y2) (spec_NodeName.l0 (k + 1) y0 y1 y2))
 | 0 => fun _ _ _ r h => by simp [spec_NodeName.l0] at h
 | k + 1 => by
  have ih0 := spec_NodeName.mono_l k
  ·intro y0 y1 y2
   unfold spec_NodeName.l0
   repeat' first
   | (with_reducible exact ih0 _ _ _)
   | (with_reducible exact LeO.refl _)
   | (with_reducible exact LeO.none _)
   | (with_reducible refine LeO.ite ?_ ?_)
   | (with_reducible refine LeO.bind ?_ (fun _ => ?_))
theorem spec_NodeName.mono : ∀ a0 k, LeO (spec_NodeName.f k a0) (spec_NodeName.f (k + 1) a0) := by
 intro a0 k
 have ih0 := spec_NodeName.mono_l k
 unfold spec_NodeName.f
 repeat' first
  | (with_reducible exact ih0 _ _ _)
  | (with_reducible exact LeO.refl _)
  | (with_reducible exact LeO.none _)
  | (with_reducible refine LeO.ite ?_ ?_)
  | (with_reducible refine LeO.bind ?_ (fun _ => ?_))
set_option maxHeartbeats 8000000 in
set_option maxRecDepth 100000 in
theorem spec_NodeName.calls (k : Nat) (a0 : ByteArray) (r : Bool) (w : World) (h : spec_NodeName.f k a0 = some r) :
 Calls Try.prog 99 #[.string a0] w fun e w' => e = .returned (.bool r) ∧ Drawn0 w w' := by
 have H : (spec_NodeName.l0 k a0 0 0) = some r := h
 clear h
 have H' := zM H
 clear H
 go_enter Try.func99, Try.ntmps99
 go_wp2
 (try simp only [Act.put, zS1, zS2, zS3])
 go_loopg [3, 4] k (fun kq v3 v4 w' => ∃ (x3_1 : Int) (x4_1 : Int), v3 = .int .i64 x3_1 ∧ v4 = .int .i64 x4_1 ∧ Aside0 (spec_NodeName.l0 kq a0 x3_1 x4_1 = some r) ∧ Aside0 (kq ≤ k) ∧ Drawn0 w w')
 case atStart => exact ⟨(0), (0), (by first | rfl | (simp; done) | (simp [*]; done)), (by first | rfl | (simp; done) | (simp [*]; done)), H', ⟨Nat.le_refl _⟩, by repeat (first | exact Drawn0.refl _ | apply Drawn0.step)⟩
 case round =>
  clear H'
  obtain ⟨x3_1, x4_1, rfl, rfl, HA, HK1, ⟨m1, rfl⟩⟩ := hrel
  cases gk with
  | zero => exact absurd HA.out (by simp [spec_NodeName.l0])
  | succ k1 =>
   have H := HA.out
   clear HA
   simp only [spec_NodeName.l0] at H
   by_cases c2 : x4_1 < (a0.size : Int)
   case neg =>
    rw [if_neg c2] at H
    have c2b0 : decide (x4_1 < (a0.size : Int)) = false := decide_eq_false c2
    clear c2
    replace H := zO.mp H
    obtain ⟨t177, A110, H⟩ := H
    replace H : (some t177) = some r := H
    have A11 := zM A110
    clear A110
    obtain rfl := zI H
    go_wp2_with (first | ((with_reducible refine gate_callee (f := 48) rfl ?_); refine goesL_ (some 43) rfl rfl Try.func48 (by kernel_rfl) rfl #[.int .i64 x3_1, .int .i64 1, .int .i64 12] rfl (by (try simp only [List.map_toArray, List.map_cons, List.map_nil]); first | done | rfl | (simp only [List.length_drop, List.length_take]; rfl)) ?_; (with_reducible refine (spec_l1In.calls x3_1 1 12 t177 _ A11.out).mono ?_); rintro e w' ⟨rfl, ⟨nd, rfl⟩⟩; refine ⟨_, rfl, ?_⟩))
    go_ret
    exact ⟨by first | rfl | (simp; done) | (simp [*]; done), by repeat (first | exact Drawn0.refl _ | apply Drawn0.step)⟩
   rw [if_pos c2] at H
   have c2b0 : decide (x4_1 < (a0.size : Int)) = true := zE c2
   clear c2
   replace H := zO.mp H
   obtain ⟨⟨t178, t179⟩, A30, H⟩ := H
   replace H : (if t179 = 0 then (some false) else ((spec_l20Letter.f t178).bind fun t180 => (if t180 = true then (spec_NodeName.l0 k1 a0 (wrap64 (x3_1 + 1)) (wrap64 (x4_1 + t179))) else (if x3_1 = 0 then (some false) else (if t178 = 95 then (spec_NodeName.l0 k1 a0 (wrap64 (x3_1 + 1)) (wrap64 (x4_1 + t179))) else ((spec_l1In.f t178 48 57).bind fun t181 => (if t181 = true then (spec_NodeName.l0 k1 a0 (wrap64 (x3_1 + 1)) (wrap64 (x4_1 + t179))) else (some false)))))))) = some r := H
   have A3 := zM A30
   clear A30
   by_cases c4 : t179 = 0
   case pos =>
    rw [if_pos c4] at H
    have c4b0 : (t179 == 0) = true := beq_iff_eq.mpr c4
    have c4b1 : (t179 != 0) = false := bne_eq_false_iff_eq.mpr c4
    clear c4
    obtain rfl := zI H
    go_wp2_with (first | ((with_reducible refine gate_callee (f := 132) rfl ?_); refine goesL_ (some 14) rfl rfl Try.func132 (by kernel_rfl) rfl #[.string a0, .int .i64 x4_1] rfl (by (try simp only [List.map_toArray, List.map_cons, List.map_nil]); first | done | rfl | (simp only [List.length_drop, List.length_take]; rfl)) ?_; (with_reducible refine (spec_l20Rune.calls a0 x4_1 t178 t179 _ A3.out).mono ?_); rintro e w' ⟨rfl, ⟨nd, rfl⟩⟩; refine ⟨_, rfl, ?_⟩))
    go_ret
    exact ⟨by first | rfl | (simp; done) | (simp [*]; done), by repeat (first | exact Drawn0.refl _ | apply Drawn0.step)⟩
   rw [if_neg c4] at H
   have c4b0 : (t179 == 0) = false := beq_eq_false_iff_ne.mpr c4
   have c4b1 : (t179 != 0) = true := bne_iff_ne.mpr c4
   replace H := zO.mp H
   obtain ⟨t180, A50, H⟩ := H
   replace H : (if t180 = true then (spec_NodeName.l0 k1 a0 (wrap64 (x3_1 + 1)) (wrap64 (x4_1 + t179))) else (if x3_1 = 0 then (some false) else (if t178 = 95 then (spec_NodeName.l0 k1 a0 (wrap64 (x3_1 + 1)) (wrap64 (x4_1 + t179))) else ((spec_l1In.f t178 48 57).bind fun t181 => (if t181 = true then (spec_NodeName.l0 k1 a0 (wrap64 (x3_1 + 1)) (wrap64 (x4_1 + t179))) else (some false)))))) = some r := H
   have A5 := zM A50
   clear A50
   by_cases c6 : t180 = true
   case pos =>
    subst c6
    have H1 : (spec_NodeName.l0 k1 a0 (wrap64 (x3_1 + 1)) (wrap64 (x4_1 + t179))) = some r := by rw [if_pos rfl] at H; exact H
    clear H
    have H := H1
    clear H1
    have H' := zM H
    clear H
    go_wp2_with (first | ((with_reducible refine gate_callee (f := 132) rfl ?_); refine goesL_ (some 14) rfl rfl Try.func132 (by kernel_rfl) rfl #[.string a0, .int .i64 x4_1] rfl (by (try simp only [List.map_toArray, List.map_cons, List.map_nil]); first | done | rfl | (simp only [List.length_drop, List.length_take]; rfl)) ?_; (with_reducible refine (spec_l20Rune.calls a0 x4_1 t178 t179 _ A3.out).mono ?_); rintro e w' ⟨rfl, ⟨nd, rfl⟩⟩; refine ⟨_, rfl, ?_⟩) | (go_at_call 133; (with_reducible refine (spec_l20Letter.calls t178 true _ A5.out).mono ?_); rintro e w' ⟨rfl, ⟨nd, rfl⟩⟩))
    go_roundg k1
    case measure => have := HK1.out; omega
    case rel => exact ⟨(wrap64 (x3_1 + 1)), (wrap64 (x4_1 + t179)), (by first | rfl | (simp; done) | (simp [*]; done)), (by first | rfl | (simp; done) | (simp [*]; done)), H', ⟨by have := HK1.out; omega⟩, by repeat (first | exact Drawn0.refl _ | apply Drawn0.step)⟩
   replace c6 := Bool.eq_false_iff.mpr c6
   subst c6
   have H1 : (if x3_1 = 0 then (some false) else (if t178 = 95 then (spec_NodeName.l0 k1 a0 (wrap64 (x3_1 + 1)) (wrap64 (x4_1 + t179))) else ((spec_l1In.f t178 48 57).bind fun t181 => (if t181 = true then (spec_NodeName.l0 k1 a0 (wrap64 (x3_1 + 1)) (wrap64 (x4_1 + t179))) else (some false))))) = some r := by rw [if_neg (show ¬ (false = true) by decide)] at H; exact H
   clear H
   have H := H1
   clear H1
   by_cases c7 : x3_1 = 0
   case pos =>
    rw [if_pos c7] at H
    have c7b0 : (x3_1 == 0) = true := beq_iff_eq.mpr c7
    have c7b1 : (x3_1 != 0) = false := bne_eq_false_iff_eq.mpr c7
    clear c7
    obtain rfl := zI H
    go_wp2_with (first | ((with_reducible refine gate_callee (f := 132) rfl ?_); refine goesL_ (some 14) rfl rfl Try.func132 (by kernel_rfl) rfl #[.string a0, .int .i64 x4_1] rfl (by (try simp only [List.map_toArray, List.map_cons, List.map_nil]); first | done | rfl | (simp only [List.length_drop, List.length_take]; rfl)) ?_; (with_reducible refine (spec_l20Rune.calls a0 x4_1 t178 t179 _ A3.out).mono ?_); rintro e w' ⟨rfl, ⟨nd, rfl⟩⟩; refine ⟨_, rfl, ?_⟩) | (go_at_call 133; (with_reducible refine (spec_l20Letter.calls t178 false _ A5.out).mono ?_); rintro e w' ⟨rfl, ⟨nd, rfl⟩⟩))
    go_ret
    exact ⟨by first | rfl | (simp; done) | (simp [*]; done), by repeat (first | exact Drawn0.refl _ | apply Drawn0.step)⟩
   rw [if_neg c7] at H
   have c7b0 : (x3_1 == 0) = false := beq_eq_false_iff_ne.mpr c7
   have c7b1 : (x3_1 != 0) = true := bne_iff_ne.mpr c7
   by_cases c8 : t178 = 95
   case pos =>
    rw [if_pos c8] at H
    have c8b0 : (t178 == 95) = true := beq_iff_eq.mpr c8
    have c8b1 : (t178 != 95) = false := bne_eq_false_iff_eq.mpr c8
    clear c8
    have H' := zM H
    clear H
    go_wp2_with (first | ((with_reducible refine gate_callee (f := 132) rfl ?_); refine goesL_ (some 14) rfl rfl Try.func132 (by kernel_rfl) rfl #[.string a0, .int .i64 x4_1] rfl (by (try simp only [List.map_toArray, List.map_cons, List.map_nil]); first | done | rfl | (simp only [List.length_drop, List.length_take]; rfl)) ?_; (with_reducible refine (spec_l20Rune.calls a0 x4_1 t178 t179 _ A3.out).mono ?_); rintro e w' ⟨rfl, ⟨nd, rfl⟩⟩; refine ⟨_, rfl, ?_⟩) | (go_at_call 133; (with_reducible refine (spec_l20Letter.calls t178 false _ A5.out).mono ?_); rintro e w' ⟨rfl, ⟨nd, rfl⟩⟩))
    go_roundg k1
    case measure => have := HK1.out; omega
    case rel => exact ⟨(wrap64 (x3_1 + 1)), (wrap64 (x4_1 + t179)), (by first | rfl | (simp; done) | (simp [*]; done)), (by first | rfl | (simp; done) | (simp [*]; done)), H', ⟨by have := HK1.out; omega⟩, by repeat (first | exact Drawn0.refl _ | apply Drawn0.step)⟩
   rw [if_neg c8] at H
   have c8b0 : (t178 == 95) = false := beq_eq_false_iff_ne.mpr c8
   have c8b1 : (t178 != 95) = true := bne_iff_ne.mpr c8
   replace H := zO.mp H
   obtain ⟨t181, A90, H⟩ := H
   replace H : (if t181 = true then (spec_NodeName.l0 k1 a0 (wrap64 (x3_1 + 1)) (wrap64 (x4_1 + t179))) else (some false)) = some r := H
   have A9 := zM A90
   clear A90
   by_cases c10 : t181 = true
   case neg =>
    replace c10 := Bool.eq_false_iff.mpr c10
    subst c10
    have H1 : (some false) = some r := by rw [if_neg (show ¬ (false = true) by decide)] at H; exact H
    clear H
    have H := H1
    clear H1
    obtain rfl := zI H
    go_wp2_with (first | ((with_reducible refine gate_callee (f := 132) rfl ?_); refine goesL_ (some 14) rfl rfl Try.func132 (by kernel_rfl) rfl #[.string a0, .int .i64 x4_1] rfl (by (try simp only [List.map_toArray, List.map_cons, List.map_nil]); first | done | rfl | (simp only [List.length_drop, List.length_take]; rfl)) ?_; (with_reducible refine (spec_l20Rune.calls a0 x4_1 t178 t179 _ A3.out).mono ?_); rintro e w' ⟨rfl, ⟨nd, rfl⟩⟩; refine ⟨_, rfl, ?_⟩) | (go_at_call 133; (with_reducible refine (spec_l20Letter.calls t178 false _ A5.out).mono ?_); rintro e w' ⟨rfl, ⟨nd, rfl⟩⟩) | (go_at_call 48; (with_reducible refine (spec_l1In.calls t178 48 57 false _ A9.out).mono ?_); rintro e w' ⟨rfl, ⟨nd, rfl⟩⟩))
    go_ret
    exact ⟨by first | rfl | (simp; done) | (simp [*]; done), by repeat (first | exact Drawn0.refl _ | apply Drawn0.step)⟩
   subst c10
   have H1 : (spec_NodeName.l0 k1 a0 (wrap64 (x3_1 + 1)) (wrap64 (x4_1 + t179))) = some r := by rw [if_pos rfl] at H; exact H
   clear H
   have H := H1
   clear H1
   have H' := zM H
   clear H
   go_wp2_with (first | ((with_reducible refine gate_callee (f := 132) rfl ?_); refine goesL_ (some 14) rfl rfl Try.func132 (by kernel_rfl) rfl #[.string a0, .int .i64 x4_1] rfl (by (try simp only [List.map_toArray, List.map_cons, List.map_nil]); first | done | rfl | (simp only [List.length_drop, List.length_take]; rfl)) ?_; (with_reducible refine (spec_l20Rune.calls a0 x4_1 t178 t179 _ A3.out).mono ?_); rintro e w' ⟨rfl, ⟨nd, rfl⟩⟩; refine ⟨_, rfl, ?_⟩) | (go_at_call 133; (with_reducible refine (spec_l20Letter.calls t178 false _ A5.out).mono ?_); rintro e w' ⟨rfl, ⟨nd, rfl⟩⟩) | (go_at_call 48; (with_reducible refine (spec_l1In.calls t178 48 57 true _ A9.out).mono ?_); rintro e w' ⟨rfl, ⟨nd, rfl⟩⟩))
   go_roundg k1
   case measure => have := HK1.out; omega
   case rel => exact ⟨(wrap64 (x3_1 + 1)), (wrap64 (x4_1 + t179)), (by first | rfl | (simp; done) | (simp [*]; done)), (by first | rfl | (simp; done) | (simp [*]; done)), H', ⟨by have := HK1.out; omega⟩, by repeat (first | exact Drawn0.refl _ | apply Drawn0.step)⟩

/-! ### spec_l20Bare: function 100 -/
def spec_l20Bare.f (a0 : Int) : Option (Bool) := if a0 = 1 then (some true) else (if a0 = 2 then (some true) else (some (a0 == 4)))
set_option maxHeartbeats 8000000 in
set_option maxRecDepth 100000 in
theorem spec_l20Bare.calls (a0 : Int) (r : Bool) (w : World) (h : spec_l20Bare.f a0 = some r) :
 Calls Try.prog 100 #[.int .i64 a0] w fun e w' => e = .returned (.bool r) ∧ Drawn0 w w' := by
 have H : (if a0 = 1 then (some true) else (if a0 = 2 then (some true) else (some (a0 == 4)))) = some r := h
 clear h
 by_cases c2 : a0 = 1
 case pos =>
  rw [if_pos c2] at H
  have c2b0 : (a0 == 1) = true := beq_iff_eq.mpr c2
  have c2b1 : (a0 != 1) = false := bne_eq_false_iff_eq.mpr c2
  clear c2
  obtain rfl := zI H
  go_enter Try.func100, Try.ntmps100
  go_wp2
  go_ret
  exact ⟨by first | rfl | (simp; done) | (simp [*]; done), by repeat (first | exact Drawn0.refl _ | apply Drawn0.step)⟩
 rw [if_neg c2] at H
 have c2b0 : (a0 == 1) = false := beq_eq_false_iff_ne.mpr c2
 have c2b1 : (a0 != 1) = true := bne_iff_ne.mpr c2
 by_cases c3 : a0 = 2
 case neg =>
  rw [if_neg c3] at H
  have c3b0 : (a0 == 2) = false := beq_eq_false_iff_ne.mpr c3
  have c3b1 : (a0 != 2) = true := bne_iff_ne.mpr c3
  obtain rfl := zI H
  go_enter Try.func100, Try.ntmps100
  go_wp2
  go_ret
  exact ⟨by first | rfl | (simp; done) | (simp [*]; done), by repeat (first | exact Drawn0.refl _ | apply Drawn0.step)⟩
 rw [if_pos c3] at H
 have c3b0 : (a0 == 2) = true := beq_iff_eq.mpr c3
 have c3b1 : (a0 != 2) = false := bne_eq_false_iff_eq.mpr c3
 clear c3
 obtain rfl := zI H
 go_enter Try.func100, Try.ntmps100
 go_wp2
 go_ret
 exact ⟨by first | rfl | (simp; done) | (simp [*]; done), by repeat (first | exact Drawn0.refl _ | apply Drawn0.step)⟩

end Go.Proofs.Ytckadpomhdjkhaa.PFnExactWiring
