-- Written by a turned copy of the print (see the notes of this repo): plain functions and their walks. Lean checks it.
import Derived.Test.YtapobpkeefeajaaPFnExactSendx0
import Derived.Test.YtapobpkeefeajaaPFnExactSendx6
import Derived.Test.YtapobpkeefeajaaPFnExactSendx7
import Derived.Test.YtapobpkeefeajaaPFnExactSendx12
import Derived.Test.YtapobpkeefeajaaPFnExactSendx13
namespace Go.Proofs.Ytapobpkeefeajaa.PFnExactSend
open Go.RowKit Go.Proofs.YtapobpkeefeajaaW.PrintWords Go.Proofs.YtapobpkeefeajaaW.PrintLast Go.Proofs.YtapobpkeefeajaaW.PrintMore
attribute [local go_sem] max2_int min2_int max_two min_two max_three min_three max_four min_four   -- for this text's walks alone
set_option linter.unusedVariables false
set_option linter.unusedSimpArgs false

/-! ### laws_heldPointS: function 15 -/
def laws_heldPointS.l0 : Nat → List (S52) → Int → Int → Option (Int)
 | 0, _, _, _ => none
 | k + 1, x0, x1, x5 => if x5 < (x0.length : Int) then (if 0 ≤ x5 then (if ((rd_T52 x0 x5).f0) = x1 then (if ((rd_T52 x0 x5).f1) = (wrap64 (x1 + 1)) then (laws_heldPointS.l0 k x0 (wrap64 ((wrap64 (x1 + 1)) + 1)) (wrap64 (x5 + 1))) else (some (-1))) else (some (-1))) else (none)) else (some x1)
def laws_heldPointS.f (k : Nat) (l0 : List (S52)) (a1 : Int) : Option (Int) := laws_heldPointS.l0 k l0 a1 0
theorem laws_heldPointS.mono_l : ∀ k, (∀ y0 y1 y2, LeO (laws_heldPointS.l0 k y0 y1 y2) (laws_heldPointS.l0 (k + 1) y0 y1 y2))
 | 0 => fun _ _ _ r h => by simp [laws_heldPointS.l0] at h
 | k + 1 => by
  have ih0 := laws_heldPointS.mono_l k
  ·intro y0 y1 y2
   unfold laws_heldPointS.l0
   repeat' first
   | (with_reducible exact ih0 _ _ _)
   | (with_reducible exact LeO.refl _)
   | (with_reducible exact LeO.none _)
   | (with_reducible refine LeO.ite ?_ ?_)
   | (with_reducible refine LeO.bind ?_ (fun _ => ?_))
   | exact ih0 _ _ _
   | exact LeO.none _
   | refine LeO.ite ?_ ?_
   | refine LeO.bind ?_ (fun _ => ?_)
theorem laws_heldPointS.mono : ∀ a0 a1 k, LeO (laws_heldPointS.f k a0 a1) (laws_heldPointS.f (k + 1) a0 a1) := by
 intro a0 a1 k
 have ih0 := laws_heldPointS.mono_l k
 unfold laws_heldPointS.f
 repeat' first
  | (with_reducible exact ih0 _ _ _)
  | (with_reducible exact LeO.refl _)
  | (with_reducible exact LeO.none _)
  | (with_reducible refine LeO.ite ?_ ?_)
  | (with_reducible refine LeO.bind ?_ (fun _ => ?_))
  | exact ih0 _ _ _
  | exact LeO.none _
  | refine LeO.ite ?_ ?_
  | refine LeO.bind ?_ (fun _ => ?_)
set_option maxHeartbeats 8000000 in
set_option maxRecDepth 100000 in
theorem laws_heldPointS.calls (k : Nat) (A0 : Option Addr) (c0 : Nat) (l0 : List (S52)) (a1 : Int) (r : Int) (w : World) (hr0 : Kd.C k52 w A0 l0.length l0) (hc0 : l0.length ≤ c0) (h : laws_heldPointS.f k l0 a1 = some r) :
 Calls Try.prog 15 #[.slice A0 l0.length c0, .int .i64 a1] w fun e w' => e = .returned (.int .i64 r) ∧ Drawn0 w w' := by
 have HR0 := Aside0.mk hr0
 have HC0 := Aside0.mk hc0
 clear hr0 hc0
 have H : (laws_heldPointS.l0 k l0 a1 0) = some r := h
 clear h
 have H' := Aside0.mk H
 clear H
 go_enter Try.func15, Try.ntmps15
 go_wp2
 (try simp only [Act.put, List.setIfInBounds_toArray, List.set_cons_zero, List.set_cons_succ])
 go_loopg [1, 5] k (fun kq v1 v5 w' => ∃ (x1_1 : Int) (x5_1 : Int), v1 = .int .i64 x1_1 ∧ v5 = .int .i64 x5_1 ∧ Aside0 (laws_heldPointS.l0 kq l0 x1_1 x5_1 = some r) ∧ Aside0 (kq ≤ k) ∧ Drawn0 w w')
 case atStart => exact ⟨(a1), (0), (by first | rfl | (simp; done) | (simp [*]; done)), (by first | rfl | (simp; done) | (simp [*]; done)), H', ⟨Nat.le_refl _⟩, by repeat (first | exact Drawn0.refl _ | apply Drawn0.step)⟩
 case round =>
  clear H'
  try clear c1
  try clear p2
  obtain ⟨x1_1, x5_1, rfl, rfl, HA, HK1, ⟨m1, rfl⟩⟩ := hrel
  cases gk with
  | zero => exact absurd HA.out (by simp [laws_heldPointS.l0])
  | succ k1 =>
   have H := HA.out
   clear HA
   simp only [laws_heldPointS.l0] at H
   by_cases c3 : x5_1 < (l0.length : Int)
   case neg =>
    rw [if_neg c3] at H
    have c3b0 : decide (x5_1 < (l0.length : Int)) = false := decide_eq_false c3
    clear c3
    obtain rfl := Option.some.inj H
    go_wp2
    go_ret
    exact ⟨by first | rfl | (simp; done) | (simp [*]; done), by repeat (first | exact Drawn0.refl _ | apply Drawn0.step)⟩
   rw [if_pos c3] at H
   have c3b0 : decide (x5_1 < (l0.length : Int)) = true := zE c3
   clear c3
   by_cases c4 : 0 ≤ x5_1
   case neg =>
    rw [if_neg c4] at H
    exact absurd H (by simp)
   rw [if_pos c4] at H
   have c4b0 : decide (0 ≤ x5_1) = true := zE c4
   clear c4
   by_cases c5 : ((rd_T52 l0 x5_1).f0) = x1_1
   case neg =>
    rw [if_neg c5] at H
    have c5b0 : (((rd_T52 l0 x5_1).f0) == x1_1) = false := beq_eq_false_iff_ne.mpr c5
    have c5b1 : (((rd_T52 l0 x5_1).f0) != x1_1) = true := bne_iff_ne.mpr c5
    obtain rfl := Option.some.inj H
    have p363 : 0 ≤ (x5_1 : Int) := zT (by first | (with_reducible assumption) | assumption)
    have q363 : x5_1 < (l0.length : Int) := zT (by first | (with_reducible assumption) | assumption)
    obtain ⟨ad363, e363, hx363_0, hx363_1⟩ := at_T52 HR0.out x5_1 p363 q363
    cases e363
    replace p363 := eq_true p363
    replace q363 := eq_true q363
    go_wp2
    go_ret
    exact ⟨by first | rfl | (simp; done) | (simp [*]; done), by repeat (first | exact Drawn0.refl _ | apply Drawn0.step)⟩
   rw [if_pos c5] at H
   have c5b0 : (((rd_T52 l0 x5_1).f0) == x1_1) = true := beq_iff_eq.mpr c5
   have c5b1 : (((rd_T52 l0 x5_1).f0) != x1_1) = false := bne_eq_false_iff_eq.mpr c5
   clear c5
   by_cases c6 : ((rd_T52 l0 x5_1).f1) = (wrap64 (x1_1 + 1))
   case neg =>
    rw [if_neg c6] at H
    have c6b0 : (((rd_T52 l0 x5_1).f1) == (wrap64 (x1_1 + 1))) = false := beq_eq_false_iff_ne.mpr c6
    have c6b1 : (((rd_T52 l0 x5_1).f1) != (wrap64 (x1_1 + 1))) = true := bne_iff_ne.mpr c6
    obtain rfl := Option.some.inj H
    have p363 : 0 ≤ (x5_1 : Int) := zT (by first | (with_reducible assumption) | assumption)
    have q363 : x5_1 < (l0.length : Int) := zT (by first | (with_reducible assumption) | assumption)
    obtain ⟨ad363, e363, hx363_0, hx363_1⟩ := at_T52 HR0.out x5_1 p363 q363
    cases e363
    replace p363 := eq_true p363
    replace q363 := eq_true q363
    have p364 : 0 ≤ (x5_1 : Int) := zT (by first | (with_reducible assumption) | assumption)
    have q364 : x5_1 < (l0.length : Int) := zT (by first | (with_reducible assumption) | assumption)
    obtain ⟨ad364, e364, hx364_0, hx364_1⟩ := at_T52 HR0.out x5_1 p364 q364
    obtain rfl : ad363 = ad364 := (by injection e364)
    replace p364 := eq_true p364
    replace q364 := eq_true q364
    go_wp2
    go_ret
    exact ⟨by first | rfl | (simp; done) | (simp [*]; done), by repeat (first | exact Drawn0.refl _ | apply Drawn0.step)⟩
   rw [if_pos c6] at H
   have c6b0 : (((rd_T52 l0 x5_1).f1) == (wrap64 (x1_1 + 1))) = true := beq_iff_eq.mpr c6
   have c6b1 : (((rd_T52 l0 x5_1).f1) != (wrap64 (x1_1 + 1))) = false := bne_eq_false_iff_eq.mpr c6
   clear c6
   have H' := Aside0.mk H
   clear H
   have p363 : 0 ≤ (x5_1 : Int) := zT (by first | (with_reducible assumption) | assumption)
   have q363 : x5_1 < (l0.length : Int) := zT (by first | (with_reducible assumption) | assumption)
   obtain ⟨ad363, e363, hx363_0, hx363_1⟩ := at_T52 HR0.out x5_1 p363 q363
   cases e363
   replace p363 := eq_true p363
   replace q363 := eq_true q363
   have p364 : 0 ≤ (x5_1 : Int) := zT (by first | (with_reducible assumption) | assumption)
   have q364 : x5_1 < (l0.length : Int) := zT (by first | (with_reducible assumption) | assumption)
   obtain ⟨ad364, e364, hx364_0, hx364_1⟩ := at_T52 HR0.out x5_1 p364 q364
   obtain rfl : ad363 = ad364 := (by injection e364)
   replace p364 := eq_true p364
   replace q364 := eq_true q364
   go_wp2
   go_roundg k1
   case measure => have := HK1.out; omega
   case rel => exact ⟨(wrap64 ((wrap64 (x1_1 + 1)) + 1)), (wrap64 (x5_1 + 1)), (by first | rfl | (simp; done) | (simp [*]; done)), (by first | rfl | (simp; done) | (simp [*]; done)), H', ⟨by have := HK1.out; omega⟩, by repeat (first | exact Drawn0.refl _ | apply Drawn0.step)⟩

/-! ### laws_FnExactSend: function 3 -/
mutual
def laws_FnExactSend.j0 : Nat → List Int → List (S52) → Bool → List Int → List (S52) → Bool → Bool → Int → Int → Int → Int → Int → Int → Option (Bool)
 | 0, _, _, _, _, _, _, _, _, _, _, _, _, _ => none
 | k + 1, x1, x5, x6, x7, x8, x9, x43, x366000, x366001, x366002, x366003, x366004, x366005 => if x43 = true then (some false) else ((laws_toByteS.f k x1).bind fun t393 => ((laws_eqByteS.f k x7 t393).bind fun t396 => (if t396 = true then ((laws_markByteS.f k x7 1).bind fun bt397 => (if bt397.1 < 0 then (laws_FnExactSend.j1 k x1 x5 x6 x8 true x366000 x366001 x366002 x366003 x366004 x366005) else ((laws_eqPointS.f k x8 x5).bind fun t399 => (if t399 = true then (laws_FnExactSend.j1 k x1 x5 x6 x8 (x9 != x6) x366000 x366001 x366002 x366003 x366004 x366005) else (laws_FnExactSend.j1 k x1 x5 x6 x8 true x366000 x366001 x366002 x366003 x366004 x366005))))) else (some false))))
def laws_FnExactSend.j1 : Nat → List Int → List (S52) → Bool → List (S52) → Bool → Int → Int → Int → Int → Int → Int → Option (Bool)
 | 0, _, _, _, _, _, _, _, _, _, _, _ => none
 | k + 1, x1, x5, x6, x8, x64, x366000, x366001, x366002, x366003, x366004, x366005 => if x64 = true then (some false) else ((laws_markPointS.f k x8 1).bind fun bt400 => ((laws_heldPointS.f k bt400.2 1).bind fun t402 => (if t402 < 0 then (some false) else (if t402 = bt400.1 then ((laws_toModem.f x366000 x366001 x366002 x366003 x366004 x366005).bind fun bt403 => ((laws_toByteS.f k x1).bind fun t409 => ((impl_Send.f k bt403.1 bt403.2.1 bt403.2.2.1 bt403.2.2.2.1 bt403.2.2.2.2.1 bt403.2.2.2.2.2 t409).bind fun bt412 => ((laws_eqPointS.f k bt412.1 x5).bind fun t416 => (if t416 = true then (laws_FnExactSend.j2 k bt400.2 bt400.1 (bt412.2 != x6)) else (laws_FnExactSend.j2 k bt400.2 bt400.1 true)))))) else (some false)))))
def laws_FnExactSend.j2 : Nat → List (S52) → Int → Bool → Option (Bool)
 | 0, _, _, _ => none
 | k + 1, x8, x11, x92 => if x92 = true then (some false) else ((laws_heldPointS.f k x8 1).bind fun t417 => (if t417 < 0 then (some false) else (if t417 = x11 then (some true) else (some false))))
end
def laws_FnExactSend.f (k : Nat) (a0_0 : Int) (a0_1 : Int) (a0_2 : Int) (a0_3 : Int) (a0_4 : Int) (a0_5 : Int) (l1 : List Int) : Option (Bool) := if (l1.length : Int) > 1048576 then (some true) else ((laws_toModem.f a0_0 a0_1 a0_2 a0_3 a0_4 a0_5).bind fun bt366 => ((laws_toByteS.f k l1).bind fun t372 => ((spec_Send.f k bt366.1 bt366.2.1 bt366.2.2.1 bt366.2.2.2.1 bt366.2.2.2.2.1 bt366.2.2.2.2.2 t372).bind fun bt375 => ((laws_toByteS.f k l1).bind fun t379 => ((laws_toModem.f a0_0 a0_1 a0_2 a0_3 a0_4 a0_5).bind fun bt382 => ((impl_Send.f k bt382.1 bt382.2.1 bt382.2.2.1 bt382.2.2.2.1 bt382.2.2.2.2.1 bt382.2.2.2.2.2 t379).bind fun bt388 => ((laws_eqPointS.f k bt388.1 bt375.1).bind fun t392 => (if t392 = true then (laws_FnExactSend.j0 k l1 bt375.1 bt375.2 t379 bt388.1 bt388.2 (bt388.2 != bt375.2) a0_0 a0_1 a0_2 a0_3 a0_4 a0_5) else (laws_FnExactSend.j0 k l1 bt375.1 bt375.2 t379 bt388.1 bt388.2 true a0_0 a0_1 a0_2 a0_3 a0_4 a0_5)))))))))
theorem laws_FnExactSend.mono_l : ∀ k, (∀ y0 y1 y2 y3 y4 y5 y6 y7 y8 y9 y10 y11 y12, LeO (laws_FnExactSend.j0 k y0 y1 y2 y3 y4 y5 y6 y7 y8 y9 y10 y11 y12) (laws_FnExactSend.j0 (k + 1) y0 y1 y2 y3 y4 y5 y6 y7 y8 y9 y10 y11 y12)) ∧ (∀ y0 y1 y2 y3 y4 y5 y6 y7 y8 y9 y10, LeO (laws_FnExactSend.j1 k y0 y1 y2 y3 y4 y5 y6 y7 y8 y9 y10) (laws_FnExactSend.j1 (k + 1) y0 y1 y2 y3 y4 y5 y6 y7 y8 y9 y10)) ∧ (∀ y0 y1 y2, LeO (laws_FnExactSend.j2 k y0 y1 y2) (laws_FnExactSend.j2 (k + 1) y0 y1 y2))
 | 0 => ⟨fun _ _ _ _ _ _ _ _ _ _ _ _ _ r h => by simp [laws_FnExactSend.j0] at h, fun _ _ _ _ _ _ _ _ _ _ _ r h => by simp [laws_FnExactSend.j1] at h, fun _ _ _ r h => by simp [laws_FnExactSend.j2] at h⟩
 | k + 1 => by
  obtain ⟨ih0, ih1, ih2⟩ := laws_FnExactSend.mono_l k
  refine ⟨?_, ?_, ?_⟩
  ·intro y0 y1 y2 y3 y4 y5 y6 y7 y8 y9 y10 y11 y12
   unfold laws_FnExactSend.j0
   repeat' first
   | (with_reducible exact ih0 _ _ _ _ _ _ _ _ _ _ _ _ _)
   | (with_reducible exact ih1 _ _ _ _ _ _ _ _ _ _ _)
   | (with_reducible exact ih2 _ _ _)
   | (with_reducible exact impl_Send.mono _ _ _ _ _ _ _ _)
   | (with_reducible exact laws_eqByteS.mono _ _ _)
   | (with_reducible exact laws_eqPointS.mono _ _ _)
   | (with_reducible exact laws_heldPointS.mono _ _ _)
   | (with_reducible exact laws_markByteS.mono _ _ _)
   | (with_reducible exact laws_markPointS.mono _ _ _)
   | (with_reducible exact laws_toByteS.mono _ _)
   | (with_reducible exact spec_Send.mono _ _ _ _ _ _ _ _)
   | (with_reducible exact LeO.refl _)
   | (with_reducible exact LeO.none _)
   | (with_reducible refine LeO.ite ?_ ?_)
   | (with_reducible refine LeO.bind ?_ (fun _ => ?_))
   | exact ih0 _ _ _ _ _ _ _ _ _ _ _ _ _
   | exact ih1 _ _ _ _ _ _ _ _ _ _ _
   | exact ih2 _ _ _
   | exact impl_Send.mono _ _ _ _ _ _ _ _
   | exact laws_eqByteS.mono _ _ _
   | exact laws_eqPointS.mono _ _ _
   | exact laws_heldPointS.mono _ _ _
   | exact laws_markByteS.mono _ _ _
   | exact laws_markPointS.mono _ _ _
   | exact laws_toByteS.mono _ _
   | exact spec_Send.mono _ _ _ _ _ _ _ _
   | exact LeO.none _
   | refine LeO.ite ?_ ?_
   | refine LeO.bind ?_ (fun _ => ?_)
  ·intro y0 y1 y2 y3 y4 y5 y6 y7 y8 y9 y10
   unfold laws_FnExactSend.j1
   repeat' first
   | (with_reducible exact ih0 _ _ _ _ _ _ _ _ _ _ _ _ _)
   | (with_reducible exact ih1 _ _ _ _ _ _ _ _ _ _ _)
   | (with_reducible exact ih2 _ _ _)
   | (with_reducible exact impl_Send.mono _ _ _ _ _ _ _ _)
   | (with_reducible exact laws_eqByteS.mono _ _ _)
   | (with_reducible exact laws_eqPointS.mono _ _ _)
   | (with_reducible exact laws_heldPointS.mono _ _ _)
   | (with_reducible exact laws_markByteS.mono _ _ _)
   | (with_reducible exact laws_markPointS.mono _ _ _)
   | (with_reducible exact laws_toByteS.mono _ _)
   | (with_reducible exact spec_Send.mono _ _ _ _ _ _ _ _)
   | (with_reducible exact LeO.refl _)
   | (with_reducible exact LeO.none _)
   | (with_reducible refine LeO.ite ?_ ?_)
   | (with_reducible refine LeO.bind ?_ (fun _ => ?_))
   | exact ih0 _ _ _ _ _ _ _ _ _ _ _ _ _
   | exact ih1 _ _ _ _ _ _ _ _ _ _ _
   | exact ih2 _ _ _
   | exact impl_Send.mono _ _ _ _ _ _ _ _
   | exact laws_eqByteS.mono _ _ _
   | exact laws_eqPointS.mono _ _ _
   | exact laws_heldPointS.mono _ _ _
   | exact laws_markByteS.mono _ _ _
   | exact laws_markPointS.mono _ _ _
   | exact laws_toByteS.mono _ _
   | exact spec_Send.mono _ _ _ _ _ _ _ _
   | exact LeO.none _
   | refine LeO.ite ?_ ?_
   | refine LeO.bind ?_ (fun _ => ?_)
  ·intro y0 y1 y2
   unfold laws_FnExactSend.j2
   repeat' first
   | (with_reducible exact ih0 _ _ _ _ _ _ _ _ _ _ _ _ _)
   | (with_reducible exact ih1 _ _ _ _ _ _ _ _ _ _ _)
   | (with_reducible exact ih2 _ _ _)
   | (with_reducible exact impl_Send.mono _ _ _ _ _ _ _ _)
   | (with_reducible exact laws_eqByteS.mono _ _ _)
   | (with_reducible exact laws_eqPointS.mono _ _ _)
   | (with_reducible exact laws_heldPointS.mono _ _ _)
   | (with_reducible exact laws_markByteS.mono _ _ _)
   | (with_reducible exact laws_markPointS.mono _ _ _)
   | (with_reducible exact laws_toByteS.mono _ _)
   | (with_reducible exact spec_Send.mono _ _ _ _ _ _ _ _)
   | (with_reducible exact LeO.refl _)
   | (with_reducible exact LeO.none _)
   | (with_reducible refine LeO.ite ?_ ?_)
   | (with_reducible refine LeO.bind ?_ (fun _ => ?_))
   | exact ih0 _ _ _ _ _ _ _ _ _ _ _ _ _
   | exact ih1 _ _ _ _ _ _ _ _ _ _ _
   | exact ih2 _ _ _
   | exact impl_Send.mono _ _ _ _ _ _ _ _
   | exact laws_eqByteS.mono _ _ _
   | exact laws_eqPointS.mono _ _ _
   | exact laws_heldPointS.mono _ _ _
   | exact laws_markByteS.mono _ _ _
   | exact laws_markPointS.mono _ _ _
   | exact laws_toByteS.mono _ _
   | exact spec_Send.mono _ _ _ _ _ _ _ _
   | exact LeO.none _
   | refine LeO.ite ?_ ?_
   | refine LeO.bind ?_ (fun _ => ?_)
theorem laws_FnExactSend.mono : ∀ a0 a1 a2 a3 a4 a5 a6 k, LeO (laws_FnExactSend.f k a0 a1 a2 a3 a4 a5 a6) (laws_FnExactSend.f (k + 1) a0 a1 a2 a3 a4 a5 a6) := by
 intro a0 a1 a2 a3 a4 a5 a6 k
 obtain ⟨ih0, ih1, ih2⟩ := laws_FnExactSend.mono_l k
 unfold laws_FnExactSend.f
 repeat' first
  | (with_reducible exact ih0 _ _ _ _ _ _ _ _ _ _ _ _ _)
  | (with_reducible exact ih1 _ _ _ _ _ _ _ _ _ _ _)
  | (with_reducible exact ih2 _ _ _)
  | (with_reducible exact impl_Send.mono _ _ _ _ _ _ _ _)
  | (with_reducible exact laws_eqByteS.mono _ _ _)
  | (with_reducible exact laws_eqPointS.mono _ _ _)
  | (with_reducible exact laws_heldPointS.mono _ _ _)
  | (with_reducible exact laws_markByteS.mono _ _ _)
  | (with_reducible exact laws_markPointS.mono _ _ _)
  | (with_reducible exact laws_toByteS.mono _ _)
  | (with_reducible exact spec_Send.mono _ _ _ _ _ _ _ _)
  | (with_reducible exact LeO.refl _)
  | (with_reducible exact LeO.none _)
  | (with_reducible refine LeO.ite ?_ ?_)
  | (with_reducible refine LeO.bind ?_ (fun _ => ?_))
  | exact ih0 _ _ _ _ _ _ _ _ _ _ _ _ _
  | exact ih1 _ _ _ _ _ _ _ _ _ _ _
  | exact ih2 _ _ _
  | exact impl_Send.mono _ _ _ _ _ _ _ _
  | exact laws_eqByteS.mono _ _ _
  | exact laws_eqPointS.mono _ _ _
  | exact laws_heldPointS.mono _ _ _
  | exact laws_markByteS.mono _ _ _
  | exact laws_markPointS.mono _ _ _
  | exact laws_toByteS.mono _ _
  | exact spec_Send.mono _ _ _ _ _ _ _ _
  | exact LeO.none _
  | refine LeO.ite ?_ ?_
  | refine LeO.bind ?_ (fun _ => ?_)
set_option maxHeartbeats 8000000 in
set_option maxRecDepth 100000 in
theorem laws_FnExactSend.calls (k : Nat) (a0_0 : Int) (a0_1 : Int) (a0_2 : Int) (a0_3 : Int) (a0_4 : Int) (a0_5 : Int) (A1 : Option Addr) (c1 : Nat) (l1 : List Int) (r : Bool) (w : World) (hr1 : Kd.C (Kd.int .u8) w A1 l1.length l1) (hc1 : l1.length ≤ c1) (hr_ : r = true) (h : laws_FnExactSend.f k a0_0 a0_1 a0_2 a0_3 a0_4 a0_5 l1 = some r) :
 Calls Try.prog 3 #[.agg #[.int .i64 a0_0, .int .i64 a0_1, .int .i64 a0_2, .int .i64 a0_3, .int .i64 a0_4, .int .i64 a0_5], .slice A1 l1.length c1] w fun e w' => e = .returned (.bool r) ∧ Below w.heap.size w w' := by
 have hu23 := Try.underlying23
 have HR1 := Aside0.mk hr1
 have HC1 := Aside0.mk hc1
 clear hr1 hc1
 have HB := Aside0.mk (Below.refl w.heap.size w)
 have H : (if (l1.length : Int) > 1048576 then (some true) else ((laws_toModem.f a0_0 a0_1 a0_2 a0_3 a0_4 a0_5).bind fun bt366 => ((laws_toByteS.f k l1).bind fun t372 => ((spec_Send.f k bt366.1 bt366.2.1 bt366.2.2.1 bt366.2.2.2.1 bt366.2.2.2.2.1 bt366.2.2.2.2.2 t372).bind fun bt375 => ((laws_toByteS.f k l1).bind fun t379 => ((laws_toModem.f a0_0 a0_1 a0_2 a0_3 a0_4 a0_5).bind fun bt382 => ((impl_Send.f k bt382.1 bt382.2.1 bt382.2.2.1 bt382.2.2.2.1 bt382.2.2.2.2.1 bt382.2.2.2.2.2 t379).bind fun bt388 => ((laws_eqPointS.f k bt388.1 bt375.1).bind fun t392 => (if t392 = true then (laws_FnExactSend.j0 k l1 bt375.1 bt375.2 t379 bt388.1 bt388.2 (bt388.2 != bt375.2) a0_0 a0_1 a0_2 a0_3 a0_4 a0_5) else (laws_FnExactSend.j0 k l1 bt375.1 bt375.2 t379 bt388.1 bt388.2 true a0_0 a0_1 a0_2 a0_3 a0_4 a0_5)))))))))) = some r := h
 clear h
 by_cases c3 : (l1.length : Int) > 1048576
 case pos =>
  rw [if_pos c3] at H
  have c3b0 : decide (1048576 < (l1.length : Int)) = true := zE c3
  have c3b1 : decide (1048576 < l1.length) = true := zE (by omega)
  clear c3
  obtain rfl := Option.some.inj H
  go_enter Try.func3, Try.ntmps3
  go_wp2_with (first | ((with_reducible refine gate_dst (N := 2) rfl ?_); refine box_event ?hg (N := 2) ?hd (cs := #[.int .i64 a0_0, .int .i64 a0_1, .int .i64 a0_2, .int .i64 a0_3, .int .i64 a0_4, .int .i64 a0_5]) (t := 23) ?hr ?_; (case hd => rfl); (case hg => rfl); (case hr => first | (go_simp; done) | (go_simp; rfl)); intro gb365 hg w4 hbox hb; have n0_ := Aside0.mk (below_step (by repeat (first | (with_reducible first | exact HB.out | apply zBa | apply zBn | apply zBd) | exact HB.out)) hb); have n1_ := Aside0.mk (hbox); have n2_ := Aside0.mk ((by rw [hg]; exact (below_size (by repeat (first | (with_reducible first | exact HB.out | apply zBa | apply zBn | apply zBd) | exact HB.out))) : w.heap.size ≤ gb365)); have n3_ := Aside0.mk ((by rw [hg]; exact (below_size (by repeat (first | (with_reducible first | exact HB.out | apply zBa | apply zBn | apply zBd) | exact HB.out))) : w.heap.size ≤ gb365)); clear HB; have HB := n0_; have BK365 := n1_; have GW365 := n2_; have GE365 := n3_; clear n0_ n1_ n2_ n3_; clear hb hbox hg))
  go_ret
  exact ⟨by first | rfl | (simp [errW_none, errW_some] <;> rfl) | (simp [*, errW_none, errW_some] <;> rfl), by repeat (first | (with_reducible first | exact HB.out | apply zBa | apply zBn | apply zBd | refine zBs ?_ GE365.out) | exact HB.out)⟩
 rw [if_neg c3] at H
 have c3b0 : decide (1048576 < (l1.length : Int)) = false := decide_eq_false c3
 have c3b1 : decide (1048576 < l1.length) = false := decide_eq_false (by omega)
 clear c3
 replace H := Option.bind_eq_some_iff.mp H
 obtain ⟨⟨t366, t367, t368, t369, t370, t371⟩, A50, H⟩ := H
 replace H : ((laws_toByteS.f k l1).bind fun t372 => ((spec_Send.f k t366 t367 t368 t369 t370 t371 t372).bind fun bt375 => ((laws_toByteS.f k l1).bind fun t379 => ((laws_toModem.f a0_0 a0_1 a0_2 a0_3 a0_4 a0_5).bind fun bt382 => ((impl_Send.f k bt382.1 bt382.2.1 bt382.2.2.1 bt382.2.2.2.1 bt382.2.2.2.2.1 bt382.2.2.2.2.2 t379).bind fun bt388 => ((laws_eqPointS.f k bt388.1 bt375.1).bind fun t392 => (if t392 = true then (laws_FnExactSend.j0 k l1 bt375.1 bt375.2 t379 bt388.1 bt388.2 (bt388.2 != bt375.2) a0_0 a0_1 a0_2 a0_3 a0_4 a0_5) else (laws_FnExactSend.j0 k l1 bt375.1 bt375.2 t379 bt388.1 bt388.2 true a0_0 a0_1 a0_2 a0_3 a0_4 a0_5)))))))) = some r := H
 have A5 := Aside0.mk A50
 clear A50
 replace H := Option.bind_eq_some_iff.mp H
 obtain ⟨t372, A60, H⟩ := H
 replace H : ((spec_Send.f k t366 t367 t368 t369 t370 t371 t372).bind fun bt375 => ((laws_toByteS.f k l1).bind fun t379 => ((laws_toModem.f a0_0 a0_1 a0_2 a0_3 a0_4 a0_5).bind fun bt382 => ((impl_Send.f k bt382.1 bt382.2.1 bt382.2.2.1 bt382.2.2.2.1 bt382.2.2.2.2.1 bt382.2.2.2.2.2 t379).bind fun bt388 => ((laws_eqPointS.f k bt388.1 bt375.1).bind fun t392 => (if t392 = true then (laws_FnExactSend.j0 k l1 bt375.1 bt375.2 t379 bt388.1 bt388.2 (bt388.2 != bt375.2) a0_0 a0_1 a0_2 a0_3 a0_4 a0_5) else (laws_FnExactSend.j0 k l1 bt375.1 bt375.2 t379 bt388.1 bt388.2 true a0_0 a0_1 a0_2 a0_3 a0_4 a0_5))))))) = some r := H
 have A6 := Aside0.mk A60
 clear A60
 replace H := Option.bind_eq_some_iff.mp H
 obtain ⟨⟨t375, t378⟩, A70, H⟩ := H
 replace H : ((laws_toByteS.f k l1).bind fun t379 => ((laws_toModem.f a0_0 a0_1 a0_2 a0_3 a0_4 a0_5).bind fun bt382 => ((impl_Send.f k bt382.1 bt382.2.1 bt382.2.2.1 bt382.2.2.2.1 bt382.2.2.2.2.1 bt382.2.2.2.2.2 t379).bind fun bt388 => ((laws_eqPointS.f k bt388.1 t375).bind fun t392 => (if t392 = true then (laws_FnExactSend.j0 k l1 t375 t378 t379 bt388.1 bt388.2 (bt388.2 != t378) a0_0 a0_1 a0_2 a0_3 a0_4 a0_5) else (laws_FnExactSend.j0 k l1 t375 t378 t379 bt388.1 bt388.2 true a0_0 a0_1 a0_2 a0_3 a0_4 a0_5)))))) = some r := H
 have A7 := Aside0.mk A70
 clear A70
 replace H := Option.bind_eq_some_iff.mp H
 obtain ⟨t379, A80, H⟩ := H
 replace H : ((laws_toModem.f a0_0 a0_1 a0_2 a0_3 a0_4 a0_5).bind fun bt382 => ((impl_Send.f k bt382.1 bt382.2.1 bt382.2.2.1 bt382.2.2.2.1 bt382.2.2.2.2.1 bt382.2.2.2.2.2 t379).bind fun bt388 => ((laws_eqPointS.f k bt388.1 t375).bind fun t392 => (if t392 = true then (laws_FnExactSend.j0 k l1 t375 t378 t379 bt388.1 bt388.2 (bt388.2 != t378) a0_0 a0_1 a0_2 a0_3 a0_4 a0_5) else (laws_FnExactSend.j0 k l1 t375 t378 t379 bt388.1 bt388.2 true a0_0 a0_1 a0_2 a0_3 a0_4 a0_5))))) = some r := H
 have A8 := Aside0.mk A80
 clear A80
 replace H := Option.bind_eq_some_iff.mp H
 obtain ⟨⟨t382, t383, t384, t385, t386, t387⟩, A90, H⟩ := H
 replace H : ((impl_Send.f k t382 t383 t384 t385 t386 t387 t379).bind fun bt388 => ((laws_eqPointS.f k bt388.1 t375).bind fun t392 => (if t392 = true then (laws_FnExactSend.j0 k l1 t375 t378 t379 bt388.1 bt388.2 (bt388.2 != t378) a0_0 a0_1 a0_2 a0_3 a0_4 a0_5) else (laws_FnExactSend.j0 k l1 t375 t378 t379 bt388.1 bt388.2 true a0_0 a0_1 a0_2 a0_3 a0_4 a0_5)))) = some r := H
 have A9 := Aside0.mk A90
 clear A90
 replace H := Option.bind_eq_some_iff.mp H
 obtain ⟨⟨t388, t391⟩, A100, H⟩ := H
 replace H : ((laws_eqPointS.f k t388 t375).bind fun t392 => (if t392 = true then (laws_FnExactSend.j0 k l1 t375 t378 t379 t388 t391 (t391 != t378) a0_0 a0_1 a0_2 a0_3 a0_4 a0_5) else (laws_FnExactSend.j0 k l1 t375 t378 t379 t388 t391 true a0_0 a0_1 a0_2 a0_3 a0_4 a0_5))) = some r := H
 have A10 := Aside0.mk A100
 clear A100
 have HC11 := Aside0.mk H
 clear H
 go_enter Try.func3, Try.ntmps3
 go_upto_region 6 with (first | ((with_reducible refine gate_dst (N := 2) rfl ?_); refine box_event ?hg (N := 2) ?hd (cs := #[.int .i64 a0_0, .int .i64 a0_1, .int .i64 a0_2, .int .i64 a0_3, .int .i64 a0_4, .int .i64 a0_5]) (t := 23) ?hr ?_; (case hd => rfl); (case hg => rfl); (case hr => first | (go_simp; done) | (go_simp; rfl)); intro gb365 hg w12 hbox hb; have n0_ := Aside0.mk (below_step (by repeat (first | (with_reducible first | exact HB.out | apply zBa | apply zBn | apply zBd) | exact HB.out)) hb); have n1_ := Aside0.mk (hbox); have n2_ := Aside0.mk ((by rw [hg]; exact (below_size (by repeat (first | (with_reducible first | exact HB.out | apply zBa | apply zBn | apply zBd) | exact HB.out))) : w.heap.size ≤ gb365)); have n3_ := Aside0.mk ((by rw [hg]; exact (below_size (by repeat (first | (with_reducible first | exact HB.out | apply zBa | apply zBn | apply zBd) | exact HB.out))) : w.heap.size ≤ gb365)); clear HB; have HB := n0_; have BK365 := n1_; have GW365 := n2_; have GE365 := n3_; clear n0_ n1_ n2_ n3_; clear hb hbox hg; have hcz13_0 : w12.cell? ⟨gb365, 0, none⟩ = some (.int .i64 a0_0) := (blk_cell BK365.out 0).trans rfl; have hcz13_1 : w12.cell? ⟨gb365, 1, none⟩ = some (.int .i64 a0_1) := (blk_cell BK365.out 1).trans rfl; have hcz13_2 : w12.cell? ⟨gb365, 2, none⟩ = some (.int .i64 a0_2) := (blk_cell BK365.out 2).trans rfl; have hcz13_3 : w12.cell? ⟨gb365, 3, none⟩ = some (.int .i64 a0_3) := (blk_cell BK365.out 3).trans rfl; have hcz13_4 : w12.cell? ⟨gb365, 4, none⟩ = some (.int .i64 a0_4) := (blk_cell BK365.out 4).trans rfl; have hcz13_5 : w12.cell? ⟨gb365, 5, none⟩ = some (.int .i64 a0_5) := (blk_cell BK365.out 5).trans rfl; have hfz13_0 := blk_frozen BK365.out 0; have hfz13_1 := blk_frozen BK365.out 1; have hfz13_2 := blk_frozen BK365.out 2; have hfz13_3 := blk_frozen BK365.out 3; have hfz13_4 := blk_frozen BK365.out 4; have hfz13_5 := blk_frozen BK365.out 5) | ((with_reducible refine gate_callee (f := 8) rfl ?_); refine goesL_ (some 20) rfl rfl Try.func8 (by kernel_rfl) rfl #[.agg #[.int .i64 a0_0, .int .i64 a0_1, .int .i64 a0_2, .int .i64 a0_3, .int .i64 a0_4, .int .i64 a0_5]] rfl (by (try simp only [List.map_toArray, List.map_cons, List.map_nil]); first | done | rfl | (simp only [List.length_drop, List.length_take]; rfl)) ?_; (with_reducible refine (laws_toModem.calls a0_0 a0_1 a0_2 a0_3 a0_4 a0_5 t366 t367 t368 t369 t370 t371 _ A5.out).mono ?_); rintro e w14 ⟨rfl, hb⟩; refine ⟨_, rfl, ?_⟩; have n0_ := Aside0.mk (zNb (g := gb365) (o := .cells #[.int .i64 a0_0, .int .i64 a0_1, .int .i64 a0_2, .int .i64 a0_3, .int .i64 a0_4, .int .i64 a0_5] 23 (0, 0)) (by (with_reducible repeat (first | apply zNn | apply zNd | apply zNa)); exact BK365.out) hb); have n1_ := Aside0.mk (below_step (by repeat (first | (with_reducible first | exact HB.out | apply zBa | apply zBn | apply zBd | refine zBs ?_ GE365.out) | exact HB.out)) hb); clear BK365; clear HB; have BK365 := n0_; have HB := n1_; clear n0_ n1_; (try clear hb); (try clear hb2); (try clear hk); (try clear hi)) | ((with_reducible refine gate_callee (f := 9) rfl ?_); refine goesL_ (some 22) rfl rfl Try.func9 (by kernel_rfl) rfl #[.slice A1 l1.length c1] rfl (by (try simp only [List.map_toArray, List.map_cons, List.map_nil]); first | done | rfl | (simp only [List.length_drop, List.length_take]; rfl)) ?_; (with_reducible refine (laws_toByteS.calls k _ _ l1 t372 _ ?side1 ?side2 A6.out).mono ?_); (case side1 => repeat (first | exact (Kd.C_below HR1.out HB.out) | (with_reducible first | refine zCa ?_ _ | refine zCn ?_ _ | refine zCd ?_))); (case side2 => exact HC1.out); rintro e w15 ⟨v373, rfl, ho0, hb⟩; refine ⟨_, rfl, ?_⟩; have n0_ := Aside0.mk (Kd.R_lower ho0 (below_size (by repeat (first | (with_reducible first | exact HB.out | apply zBa | apply zBn | apply zBd | refine zBs ?_ GE365.out) | exact HB.out)))); have n1_ := Aside0.mk (zNb (g := gb365) (o := .cells #[.int .i64 a0_0, .int .i64 a0_1, .int .i64 a0_2, .int .i64 a0_3, .int .i64 a0_4, .int .i64 a0_5] 23 (0, 0)) (by (with_reducible repeat (first | apply zNn | apply zNd | apply zNa)); exact BK365.out) hb); have n2_ := Aside0.mk (below_step (by repeat (first | (with_reducible first | exact HB.out | apply zBa | apply zBn | apply zBd | refine zBs ?_ GE365.out) | exact HB.out)) hb); clear BK365; clear HB; have HO374 := n0_; have BK365 := n1_; have HB := n2_; clear n0_ n1_ n2_; (try clear hb); (try clear hb2); (try clear hk); (try clear hi); (try clear ho0); obtain ⟨Ao16, co16, eo16⟩ := Kd.R_slice HO374.out; subst eo16) | ((with_reducible refine gate_callee (f := 7) rfl ?_); refine goesL_ (some 23) rfl rfl Try.func7 (by kernel_rfl) rfl #[.agg #[.int .i64 t366, .int .i64 t367, .int .i64 t368, .int .i64 t369, .int .i64 t370, .int .i64 t371], .slice Ao16 t372.length co16] rfl (by (try simp only [List.map_toArray, List.map_cons, List.map_nil]); first | done | rfl | (simp only [List.length_drop, List.length_take]; rfl)) ?_; (with_reducible refine (spec_Send.calls k t366 t367 t368 t369 t370 t371 _ _ t372 t375 t378 _ ?side1 ?side2 A7.out).mono ?_); (case side1 => repeat (first | exact (Kd.R_reads' HO374.out).2.2 | (with_reducible first | refine zCa ?_ _ | refine zCn ?_ _ | refine zCd ?_))); (case side2 => exact (Kd.R_reads' HO374.out).2.1); rintro e w17 ⟨v376, rfl, ho0, hb⟩; refine ⟨_, rfl, ?_⟩; have n0_ := Aside0.mk (Kd.R_below (by (with_reducible repeat (first | apply zRa | apply zRn | apply zRd)); first | exact HO374.out | (subst_vars; exact HO374.out)) hb); have n1_ := Aside0.mk (Kd.R_lower ho0 (below_size (by repeat (first | (with_reducible first | exact HB.out | apply zBa | apply zBn | apply zBd | refine zBs ?_ GE365.out) | exact HB.out)))); have n2_ := Aside0.mk (zNb (g := gb365) (o := .cells #[.int .i64 a0_0, .int .i64 a0_1, .int .i64 a0_2, .int .i64 a0_3, .int .i64 a0_4, .int .i64 a0_5] 23 (0, 0)) (by (with_reducible repeat (first | apply zNn | apply zNd | apply zNa)); exact BK365.out) hb); have n3_ := Aside0.mk (below_step (by repeat (first | (with_reducible first | exact HB.out | apply zBa | apply zBn | apply zBd | refine zBs ?_ GE365.out) | exact HB.out)) hb); clear HO374; clear BK365; clear HB; have HO374 := n0_; have HO377 := n1_; have BK365 := n2_; have HB := n3_; clear n0_ n1_ n2_ n3_; (try clear hb); (try clear hb2); (try clear hk); (try clear hi); (try clear ho0)) | ((with_reducible refine gate_callee (f := 9) rfl ?_); refine goesL_ (some 27) rfl rfl Try.func9 (by kernel_rfl) rfl #[.slice A1 l1.length c1] rfl (by (try simp only [List.map_toArray, List.map_cons, List.map_nil]); first | done | rfl | (simp only [List.length_drop, List.length_take]; rfl)) ?_; (with_reducible refine (laws_toByteS.calls k _ _ l1 t379 _ ?side1 ?side2 A8.out).mono ?_); (case side1 => repeat (first | exact (Kd.C_below HR1.out HB.out) | (with_reducible first | refine zCa ?_ _ | refine zCn ?_ _ | refine zCd ?_))); (case side2 => exact HC1.out); rintro e w18 ⟨v380, rfl, ho0, hb⟩; refine ⟨_, rfl, ?_⟩; have n0_ := Aside0.mk (Kd.R_elder' (by (with_reducible repeat (first | apply zRa | apply zRn | apply zRd)); first | exact HO374.out | (subst_vars; exact HO374.out)) (Kd.R_base ho0) hb); have n1_ := Aside0.mk (Kd.R_below (by (with_reducible repeat (first | apply zRa | apply zRn | apply zRd)); first | exact HO377.out | (subst_vars; exact HO377.out)) hb); have n2_ := Aside0.mk (Kd.R_lower (Kd.R_new' ho0 (Kd.R_lt (by (with_reducible repeat (first | apply zRa | apply zRn | apply zRd)); first | exact HO374.out | (subst_vars; exact HO374.out)))) (below_size (by repeat (first | (with_reducible first | exact HB.out | apply zBa | apply zBn | apply zBd | refine zBs ?_ GE365.out) | exact HB.out)))); have n3_ := Aside0.mk (zNb (g := gb365) (o := .cells #[.int .i64 a0_0, .int .i64 a0_1, .int .i64 a0_2, .int .i64 a0_3, .int .i64 a0_4, .int .i64 a0_5] 23 (0, 0)) (by (with_reducible repeat (first | apply zNn | apply zNd | apply zNa)); exact BK365.out) hb); have n4_ := Aside0.mk (below_step (by repeat (first | (with_reducible first | exact HB.out | apply zBa | apply zBn | apply zBd | refine zBs ?_ GE365.out) | exact HB.out)) hb); clear HO374; clear HO377; clear BK365; clear HB; have HO374 := n0_; have HO377 := n1_; have HO381 := n2_; have BK365 := n3_; have HB := n4_; clear n0_ n1_ n2_ n3_ n4_; (try clear hb); (try clear hb2); (try clear hk); (try clear hi); (try clear ho0); have hcz19_0 : w18.cell? ⟨gb365, 0, none⟩ = some (.int .i64 a0_0) := (blk_cell BK365.out 0).trans rfl; have hcz19_1 : w18.cell? ⟨gb365, 1, none⟩ = some (.int .i64 a0_1) := (blk_cell BK365.out 1).trans rfl; have hcz19_2 : w18.cell? ⟨gb365, 2, none⟩ = some (.int .i64 a0_2) := (blk_cell BK365.out 2).trans rfl; have hcz19_3 : w18.cell? ⟨gb365, 3, none⟩ = some (.int .i64 a0_3) := (blk_cell BK365.out 3).trans rfl; have hcz19_4 : w18.cell? ⟨gb365, 4, none⟩ = some (.int .i64 a0_4) := (blk_cell BK365.out 4).trans rfl; have hcz19_5 : w18.cell? ⟨gb365, 5, none⟩ = some (.int .i64 a0_5) := (blk_cell BK365.out 5).trans rfl; have hfz19_0 := blk_frozen BK365.out 0; have hfz19_1 := blk_frozen BK365.out 1; have hfz19_2 := blk_frozen BK365.out 2; have hfz19_3 := blk_frozen BK365.out 3; have hfz19_4 := blk_frozen BK365.out 4; have hfz19_5 := blk_frozen BK365.out 5) | ((with_reducible refine gate_callee (f := 8) rfl ?_); refine goesL_ (some 30) rfl rfl Try.func8 (by kernel_rfl) rfl #[.agg #[.int .i64 a0_0, .int .i64 a0_1, .int .i64 a0_2, .int .i64 a0_3, .int .i64 a0_4, .int .i64 a0_5]] rfl (by (try simp only [List.map_toArray, List.map_cons, List.map_nil]); first | done | rfl | (simp only [List.length_drop, List.length_take]; rfl)) ?_; (with_reducible refine (laws_toModem.calls a0_0 a0_1 a0_2 a0_3 a0_4 a0_5 t382 t383 t384 t385 t386 t387 _ A9.out).mono ?_); rintro e w20 ⟨rfl, hb⟩; refine ⟨_, rfl, ?_⟩; have n0_ := Aside0.mk (Kd.R_below (by (with_reducible repeat (first | apply zRa | apply zRn | apply zRd)); first | exact HO374.out | (subst_vars; exact HO374.out)) hb); have n1_ := Aside0.mk (Kd.R_below (by (with_reducible repeat (first | apply zRa | apply zRn | apply zRd)); first | exact HO377.out | (subst_vars; exact HO377.out)) hb); have n2_ := Aside0.mk (Kd.R_below (by (with_reducible repeat (first | apply zRa | apply zRn | apply zRd)); first | exact HO381.out | (subst_vars; exact HO381.out)) hb); have n3_ := Aside0.mk (zNb (g := gb365) (o := .cells #[.int .i64 a0_0, .int .i64 a0_1, .int .i64 a0_2, .int .i64 a0_3, .int .i64 a0_4, .int .i64 a0_5] 23 (0, 0)) (by (with_reducible repeat (first | apply zNn | apply zNd | apply zNa)); exact BK365.out) hb); have n4_ := Aside0.mk (below_step (by repeat (first | (with_reducible first | exact HB.out | apply zBa | apply zBn | apply zBd | refine zBs ?_ GE365.out) | exact HB.out)) hb); clear HO374; clear HO377; clear HO381; clear BK365; clear HB; have HO374 := n0_; have HO377 := n1_; have HO381 := n2_; have BK365 := n3_; have HB := n4_; clear n0_ n1_ n2_ n3_ n4_; (try clear hb); (try clear hb2); (try clear hk); (try clear hi); obtain ⟨Ao21, co21, eo21⟩ := Kd.R_slice HO381.out; subst eo21) | ((with_reducible refine gate_callee (f := 10) rfl ?_); refine goesL_ (some 32) rfl rfl Try.func10 (by kernel_rfl) rfl #[.agg #[.int .i64 t382, .int .i64 t383, .int .i64 t384, .int .i64 t385, .int .i64 t386, .int .i64 t387], .slice Ao21 t379.length co21] rfl (by (try simp only [List.map_toArray, List.map_cons, List.map_nil]); first | done | rfl | (simp only [List.length_drop, List.length_take]; rfl)) ?_; (with_reducible refine (impl_Send.calls k t382 t383 t384 t385 t386 t387 _ _ t379 t388 t391 _ ?side1 ?side2 A10.out).mono ?_); (case side1 => repeat (first | exact (Kd.R_reads' HO381.out).2.2 | (with_reducible first | refine zCa ?_ _ | refine zCn ?_ _ | refine zCd ?_))); (case side2 => exact (Kd.R_reads' HO381.out).2.1); rintro e w22 ⟨v389, rfl, ho0, hb⟩; refine ⟨_, rfl, ?_⟩; have n0_ := Aside0.mk (Kd.R_below (by (with_reducible repeat (first | apply zRa | apply zRn | apply zRd)); first | exact HO374.out | (subst_vars; exact HO374.out)) hb); have n1_ := Aside0.mk (Kd.R_elder' (by (with_reducible repeat (first | apply zRa | apply zRn | apply zRd)); first | exact HO377.out | (subst_vars; exact HO377.out)) (Kd.R_base ho0) hb); have n2_ := Aside0.mk (Kd.R_below (by (with_reducible repeat (first | apply zRa | apply zRn | apply zRd)); first | exact HO381.out | (subst_vars; exact HO381.out)) hb); have n3_ := Aside0.mk (Kd.R_lower (Kd.R_new' ho0 (Kd.R_lt (by (with_reducible repeat (first | apply zRa | apply zRn | apply zRd)); first | exact HO377.out | (subst_vars; exact HO377.out)))) (below_size (by repeat (first | (with_reducible first | exact HB.out | apply zBa | apply zBn | apply zBd | refine zBs ?_ GE365.out) | exact HB.out)))); have n4_ := Aside0.mk (zNb (g := gb365) (o := .cells #[.int .i64 a0_0, .int .i64 a0_1, .int .i64 a0_2, .int .i64 a0_3, .int .i64 a0_4, .int .i64 a0_5] 23 (0, 0)) (by (with_reducible repeat (first | apply zNn | apply zNd | apply zNa)); exact BK365.out) hb); have n5_ := Aside0.mk (below_step (by repeat (first | (with_reducible first | exact HB.out | apply zBa | apply zBn | apply zBd | refine zBs ?_ GE365.out) | exact HB.out)) hb); clear HO374; clear HO377; clear HO381; clear BK365; clear HB; have HO374 := n0_; have HO377 := n1_; have HO381 := n2_; have HO390 := n3_; have BK365 := n4_; have HB := n5_; clear n0_ n1_ n2_ n3_ n4_ n5_; (try clear hb); (try clear hb2); (try clear hk); (try clear hi); (try clear ho0)))
 (try simp only [Act.put, List.setIfInBounds_toArray, List.set_cons_zero, List.set_cons_succ])
 go_cut [43] (fun v43 wc => ∃ (kq : Nat) (x43_10 : Bool), v43 = .bool x43_10 ∧ Aside0 (laws_FnExactSend.j0 kq l1 t375 t378 t379 t388 t391 x43_10 a0_0 a0_1 a0_2 a0_3 a0_4 a0_5 = some r) ∧ Aside0 (kq ≤ k) ∧ Aside0 (Kd.R k52 52 wc w.heap.size (fun k_ => some k_ ≠ (v389 : Value).ownBlock) v376 t375) ∧ Aside0 (Kd.R (Kd.int .u8) 5 wc w.heap.size (fun _ => True) (.slice Ao21 t379.length co21) t379) ∧ Aside0 (Kd.R k52 52 wc w.heap.size (fun k_ => some k_ ≠ (v376 : Value).ownBlock) v389 t388) ∧ Aside0 (wc.heap[gb365]? = some (.cells #[.int .i64 a0_0, .int .i64 a0_1, .int .i64 a0_2, .int .i64 a0_3, .int .i64 a0_4, .int .i64 a0_5] 23 (0, 0))) ∧ Aside0 (Below w.heap.size w wc))
 case first =>
  have H := HC11.out
  clear HC11
  replace H := Option.bind_eq_some_iff.mp H
  obtain ⟨t392, A230, H⟩ := H
  replace H : (if t392 = true then (laws_FnExactSend.j0 k l1 t375 t378 t379 t388 t391 (t391 != t378) a0_0 a0_1 a0_2 a0_3 a0_4 a0_5) else (laws_FnExactSend.j0 k l1 t375 t378 t379 t388 t391 true a0_0 a0_1 a0_2 a0_3 a0_4 a0_5)) = some r := H
  have A23 := Aside0.mk A230
  clear A230
  by_cases c24 : t392 = true
  case pos =>
   subst c24
   have H1 : (laws_FnExactSend.j0 k l1 t375 t378 t379 t388 t391 (t391 != t378) a0_0 a0_1 a0_2 a0_3 a0_4 a0_5) = some r := by rw [if_pos rfl] at H; exact H
   clear H
   have H := H1
   clear H1
   have H' := Aside0.mk H
   clear H
   obtain ⟨Ao25, co25, eo25⟩ := Kd.R_slice HO390.out
   subst eo25
   obtain ⟨Ao26, co26, eo26⟩ := Kd.R_slice HO377.out
   subst eo26
   go_wp2_with (first | ((with_reducible refine gate_callee (f := 11) rfl ?_); refine goesL_ (some 37) rfl rfl Try.func11 (by kernel_rfl) rfl #[.slice Ao25 t388.length co25, .slice Ao26 t375.length co26] rfl (by (try simp only [List.map_toArray, List.map_cons, List.map_nil]); first | done | rfl | (simp only [List.length_drop, List.length_take]; rfl)) ?_; (with_reducible refine (laws_eqPointS.calls k _ _ t388 _ _ t375 true _ ?side1 ?side2 ?side3 ?side4 A23.out).mono ?_); (case side1 => repeat (first | exact (Kd.R_reads' HO390.out).2.2 | (with_reducible first | refine zCa ?_ _ | refine zCn ?_ _ | refine zCd ?_))); (case side2 => exact (Kd.R_reads' HO390.out).2.1); (case side3 => repeat (first | exact (Kd.R_reads' HO377.out).2.2 | (with_reducible first | refine zCa ?_ _ | refine zCn ?_ _ | refine zCd ?_))); (case side4 => exact (Kd.R_reads' HO377.out).2.1); rintro e w27 ⟨rfl, hb⟩; refine ⟨_, rfl, ?_⟩; have n0_ := Aside0.mk (Kd.R_below (by (with_reducible repeat (first | apply zRa | apply zRn | apply zRd)); first | exact HO374.out | (subst_vars; exact HO374.out)) hb); have n1_ := Aside0.mk (Kd.R_below (by (with_reducible repeat (first | apply zRa | apply zRn | apply zRd)); first | exact HO377.out | (subst_vars; exact HO377.out)) hb); have n2_ := Aside0.mk (Kd.R_below (by (with_reducible repeat (first | apply zRa | apply zRn | apply zRd)); first | exact HO381.out | (subst_vars; exact HO381.out)) hb); have n3_ := Aside0.mk (Kd.R_below (by (with_reducible repeat (first | apply zRa | apply zRn | apply zRd)); first | exact HO390.out | (subst_vars; exact HO390.out)) hb); have n4_ := Aside0.mk (zNb (g := gb365) (o := .cells #[.int .i64 a0_0, .int .i64 a0_1, .int .i64 a0_2, .int .i64 a0_3, .int .i64 a0_4, .int .i64 a0_5] 23 (0, 0)) (by (with_reducible repeat (first | apply zNn | apply zNd | apply zNa)); exact BK365.out) hb); have n5_ := Aside0.mk (below_step (by repeat (first | (with_reducible first | exact HB.out | apply zBa | apply zBn | apply zBd | refine zBs ?_ GE365.out) | exact HB.out)) hb); clear HO374; clear HO377; clear HO381; clear HO390; clear BK365; clear HB; have HO374 := n0_; have HO377 := n1_; have HO381 := n2_; have HO390 := n3_; have BK365 := n4_; have HB := n5_; clear n0_ n1_ n2_ n3_ n4_ n5_; (try clear hb); (try clear hb2); (try clear hk); (try clear hi)))
   go_meet
   case rel => exact ⟨_, ((t391 != t378)), (by first | rfl | (simp; done) | (simp [*]; done)), H', ⟨by first | omega | exact Nat.le_refl _⟩, ⟨by (with_reducible repeat (first | apply zRa | apply zRn | apply zRd)); first | exact Kd.R_mono HO377.out (fun _ hk => hk.2) | (subst_vars; exact Kd.R_mono HO377.out (fun _ hk => hk.2))⟩, ⟨by (with_reducible repeat (first | apply zRa | apply zRn | apply zRd)); first | exact Kd.R_mono HO381.out (fun _ hk => trivial) | (subst_vars; exact Kd.R_mono HO381.out (fun _ hk => trivial))⟩, ⟨by (with_reducible repeat (first | apply zRa | apply zRn | apply zRd)); first | exact Kd.R_mono HO390.out (fun _ hk => hk.2) | (subst_vars; exact Kd.R_mono HO390.out (fun _ hk => hk.2))⟩, ⟨by (with_reducible repeat (first | apply zNn | apply zNd | apply zNa)); exact BK365.out⟩, ⟨by repeat (first | (with_reducible first | exact HB.out | apply zBa | apply zBn | apply zBd | refine zBs ?_ GE365.out) | exact HB.out)⟩⟩
  replace c24 := Bool.eq_false_iff.mpr c24
  subst c24
  have H1 : (laws_FnExactSend.j0 k l1 t375 t378 t379 t388 t391 true a0_0 a0_1 a0_2 a0_3 a0_4 a0_5) = some r := by rw [if_neg (show ¬ (false = true) by decide)] at H; exact H
  clear H
  have H := H1
  clear H1
  have H' := Aside0.mk H
  clear H
  obtain ⟨Ao28, co28, eo28⟩ := Kd.R_slice HO390.out
  subst eo28
  obtain ⟨Ao29, co29, eo29⟩ := Kd.R_slice HO377.out
  subst eo29
  go_wp2_with (first | ((with_reducible refine gate_callee (f := 11) rfl ?_); refine goesL_ (some 37) rfl rfl Try.func11 (by kernel_rfl) rfl #[.slice Ao28 t388.length co28, .slice Ao29 t375.length co29] rfl (by (try simp only [List.map_toArray, List.map_cons, List.map_nil]); first | done | rfl | (simp only [List.length_drop, List.length_take]; rfl)) ?_; (with_reducible refine (laws_eqPointS.calls k _ _ t388 _ _ t375 false _ ?side1 ?side2 ?side3 ?side4 A23.out).mono ?_); (case side1 => repeat (first | exact (Kd.R_reads' HO390.out).2.2 | (with_reducible first | refine zCa ?_ _ | refine zCn ?_ _ | refine zCd ?_))); (case side2 => exact (Kd.R_reads' HO390.out).2.1); (case side3 => repeat (first | exact (Kd.R_reads' HO377.out).2.2 | (with_reducible first | refine zCa ?_ _ | refine zCn ?_ _ | refine zCd ?_))); (case side4 => exact (Kd.R_reads' HO377.out).2.1); rintro e w30 ⟨rfl, hb⟩; refine ⟨_, rfl, ?_⟩; have n0_ := Aside0.mk (Kd.R_below (by (with_reducible repeat (first | apply zRa | apply zRn | apply zRd)); first | exact HO374.out | (subst_vars; exact HO374.out)) hb); have n1_ := Aside0.mk (Kd.R_below (by (with_reducible repeat (first | apply zRa | apply zRn | apply zRd)); first | exact HO377.out | (subst_vars; exact HO377.out)) hb); have n2_ := Aside0.mk (Kd.R_below (by (with_reducible repeat (first | apply zRa | apply zRn | apply zRd)); first | exact HO381.out | (subst_vars; exact HO381.out)) hb); have n3_ := Aside0.mk (Kd.R_below (by (with_reducible repeat (first | apply zRa | apply zRn | apply zRd)); first | exact HO390.out | (subst_vars; exact HO390.out)) hb); have n4_ := Aside0.mk (zNb (g := gb365) (o := .cells #[.int .i64 a0_0, .int .i64 a0_1, .int .i64 a0_2, .int .i64 a0_3, .int .i64 a0_4, .int .i64 a0_5] 23 (0, 0)) (by (with_reducible repeat (first | apply zNn | apply zNd | apply zNa)); exact BK365.out) hb); have n5_ := Aside0.mk (below_step (by repeat (first | (with_reducible first | exact HB.out | apply zBa | apply zBn | apply zBd | refine zBs ?_ GE365.out) | exact HB.out)) hb); clear HO374; clear HO377; clear HO381; clear HO390; clear BK365; clear HB; have HO374 := n0_; have HO377 := n1_; have HO381 := n2_; have HO390 := n3_; have BK365 := n4_; have HB := n5_; clear n0_ n1_ n2_ n3_ n4_ n5_; (try clear hb); (try clear hb2); (try clear hk); (try clear hi)))
  go_meet
  case rel => exact ⟨_, (true), (by first | rfl | (simp; done) | (simp [*]; done)), H', ⟨by first | omega | exact Nat.le_refl _⟩, ⟨by (with_reducible repeat (first | apply zRa | apply zRn | apply zRd)); first | exact Kd.R_mono HO377.out (fun _ hk => hk.2) | (subst_vars; exact Kd.R_mono HO377.out (fun _ hk => hk.2))⟩, ⟨by (with_reducible repeat (first | apply zRa | apply zRn | apply zRd)); first | exact Kd.R_mono HO381.out (fun _ hk => trivial) | (subst_vars; exact Kd.R_mono HO381.out (fun _ hk => trivial))⟩, ⟨by (with_reducible repeat (first | apply zRa | apply zRn | apply zRd)); first | exact Kd.R_mono HO390.out (fun _ hk => hk.2) | (subst_vars; exact Kd.R_mono HO390.out (fun _ hk => hk.2))⟩, ⟨by (with_reducible repeat (first | apply zNn | apply zNd | apply zNa)); exact BK365.out⟩, ⟨by repeat (first | (with_reducible first | exact HB.out | apply zBa | apply zBn | apply zBd | refine zBs ?_ GE365.out) | exact HB.out)⟩⟩
 case rest =>
  clear HC11
  try clear c1
  try clear c2
  try clear p2
  try clear c3
  try clear c3b0
  try clear c3b1
  try clear c7
  try clear c8
  try clear c9
  try clear c10
  try clear c11
  try clear c24
  try clear hcz13_0
  try clear hcz13_1
  try clear hcz13_2
  try clear hcz13_3
  try clear hcz13_4
  try clear hcz13_5
  try clear hcz19_0
  try clear hcz19_1
  try clear hcz19_2
  try clear hcz19_3
  try clear hcz19_4
  try clear hcz19_5
  try clear hfz13_0
  try clear hfz13_1
  try clear hfz13_2
  try clear hfz13_3
  try clear hfz13_4
  try clear hfz13_5
  try clear hfz19_0
  try clear hfz19_1
  try clear hfz19_2
  try clear hfz19_3
  try clear hfz19_4
  try clear hfz19_5
  obtain ⟨kq, x43_10, rfl, HA, HJ10, HO_5, HO_7, HO_8, BK365, HB⟩ := hcut
  cases kq with
  | zero => exact absurd HA.out (by simp [laws_FnExactSend.j0])
  | succ kj10 =>
   have H := HA.out
   clear HA
   simp only [laws_FnExactSend.j0] at H
   by_cases c31 : x43_10 = true
   case pos =>
    subst c31
    have H1 : (some false) = some r := by rw [if_pos rfl] at H; exact H
    clear H
    have H := H1
    clear H1
    exact absurd (Option.some.inj H) (by rw [hr_]; decide)
   replace c31 := Bool.eq_false_iff.mpr c31
   subst c31
   have H1 : ((laws_toByteS.f kj10 l1).bind fun t393 => ((laws_eqByteS.f kj10 t379 t393).bind fun t396 => (if t396 = true then ((laws_markByteS.f kj10 t379 1).bind fun bt397 => (if bt397.1 < 0 then (laws_FnExactSend.j1 kj10 l1 t375 t378 t388 true a0_0 a0_1 a0_2 a0_3 a0_4 a0_5) else ((laws_eqPointS.f kj10 t388 t375).bind fun t399 => (if t399 = true then (laws_FnExactSend.j1 kj10 l1 t375 t378 t388 (t391 != t378) a0_0 a0_1 a0_2 a0_3 a0_4 a0_5) else (laws_FnExactSend.j1 kj10 l1 t375 t378 t388 true a0_0 a0_1 a0_2 a0_3 a0_4 a0_5))))) else (some false)))) = some r := by rw [if_neg (show ¬ (false = true) by decide)] at H; exact H
   clear H
   have H := H1
   clear H1
   replace H := Option.bind_eq_some_iff.mp H
   obtain ⟨t393, A320, H⟩ := H
   replace H : ((laws_eqByteS.f kj10 t379 t393).bind fun t396 => (if t396 = true then ((laws_markByteS.f kj10 t379 1).bind fun bt397 => (if bt397.1 < 0 then (laws_FnExactSend.j1 kj10 l1 t375 t378 t388 true a0_0 a0_1 a0_2 a0_3 a0_4 a0_5) else ((laws_eqPointS.f kj10 t388 t375).bind fun t399 => (if t399 = true then (laws_FnExactSend.j1 kj10 l1 t375 t378 t388 (t391 != t378) a0_0 a0_1 a0_2 a0_3 a0_4 a0_5) else (laws_FnExactSend.j1 kj10 l1 t375 t378 t388 true a0_0 a0_1 a0_2 a0_3 a0_4 a0_5))))) else (some false))) = some r := H
   have A32 := Aside0.mk A320
   clear A320
   replace H := Option.bind_eq_some_iff.mp H
   obtain ⟨t396, A330, H⟩ := H
   replace H : (if t396 = true then ((laws_markByteS.f kj10 t379 1).bind fun bt397 => (if bt397.1 < 0 then (laws_FnExactSend.j1 kj10 l1 t375 t378 t388 true a0_0 a0_1 a0_2 a0_3 a0_4 a0_5) else ((laws_eqPointS.f kj10 t388 t375).bind fun t399 => (if t399 = true then (laws_FnExactSend.j1 kj10 l1 t375 t378 t388 (t391 != t378) a0_0 a0_1 a0_2 a0_3 a0_4 a0_5) else (laws_FnExactSend.j1 kj10 l1 t375 t378 t388 true a0_0 a0_1 a0_2 a0_3 a0_4 a0_5))))) else (some false)) = some r := H
   have A33 := Aside0.mk A330
   clear A330
   by_cases c34 : t396 = true
   case neg =>
    replace c34 := Bool.eq_false_iff.mpr c34
    subst c34
    have H1 : (some false) = some r := by rw [if_neg (show ¬ (false = true) by decide)] at H; exact H
    clear H
    have H := H1
    clear H1
    exact absurd (Option.some.inj H) (by rw [hr_]; decide)
   subst c34
   have H1 : ((laws_markByteS.f kj10 t379 1).bind fun bt397 => (if bt397.1 < 0 then (laws_FnExactSend.j1 kj10 l1 t375 t378 t388 true a0_0 a0_1 a0_2 a0_3 a0_4 a0_5) else ((laws_eqPointS.f kj10 t388 t375).bind fun t399 => (if t399 = true then (laws_FnExactSend.j1 kj10 l1 t375 t378 t388 (t391 != t378) a0_0 a0_1 a0_2 a0_3 a0_4 a0_5) else (laws_FnExactSend.j1 kj10 l1 t375 t378 t388 true a0_0 a0_1 a0_2 a0_3 a0_4 a0_5))))) = some r := by rw [if_pos rfl] at H; exact H
   clear H
   have H := H1
   clear H1
   replace H := Option.bind_eq_some_iff.mp H
   obtain ⟨⟨t397, t398⟩, A350, H⟩ := H
   replace H : (if t397 < 0 then (laws_FnExactSend.j1 kj10 l1 t375 t378 t388 true a0_0 a0_1 a0_2 a0_3 a0_4 a0_5) else ((laws_eqPointS.f kj10 t388 t375).bind fun t399 => (if t399 = true then (laws_FnExactSend.j1 kj10 l1 t375 t378 t388 (t391 != t378) a0_0 a0_1 a0_2 a0_3 a0_4 a0_5) else (laws_FnExactSend.j1 kj10 l1 t375 t378 t388 true a0_0 a0_1 a0_2 a0_3 a0_4 a0_5)))) = some r := H
   have A35 := Aside0.mk A350
   clear A350
   have HC36 := Aside0.mk H
   clear H
   go_upto_region 12 with (first | ((with_reducible refine gate_callee (f := 9) rfl ?_); refine goesL_ (some 46) rfl rfl Try.func9 (by kernel_rfl) rfl #[.slice A1 l1.length c1] rfl (by (try simp only [List.map_toArray, List.map_cons, List.map_nil]); first | done | rfl | (simp only [List.length_drop, List.length_take]; rfl)) ?_; (with_reducible refine (laws_toByteS.calls kj10 _ _ l1 t393 _ ?side1 ?side2 A32.out).mono ?_); (case side1 => repeat (first | exact (Kd.C_below HR1.out HB.out) | (with_reducible first | refine zCa ?_ _ | refine zCn ?_ _ | refine zCd ?_))); (case side2 => exact HC1.out); rintro e w37 ⟨v394, rfl, ho0, hb⟩; refine ⟨_, rfl, ?_⟩; have n0_ := Aside0.mk (Kd.R_below (by (with_reducible repeat (first | apply zRa | apply zRn | apply zRd)); first | exact HO_5.out | (subst_vars; exact HO_5.out)) hb); have n1_ := Aside0.mk (Kd.R_elder' (by (with_reducible repeat (first | apply zRa | apply zRn | apply zRd)); first | exact HO_7.out | (subst_vars; exact HO_7.out)) (Kd.R_base ho0) hb); have n2_ := Aside0.mk (Kd.R_below (by (with_reducible repeat (first | apply zRa | apply zRn | apply zRd)); first | exact HO_8.out | (subst_vars; exact HO_8.out)) hb); have n3_ := Aside0.mk (Kd.R_lower (Kd.R_new' ho0 (Kd.R_lt (by (with_reducible repeat (first | apply zRa | apply zRn | apply zRd)); first | exact HO_7.out | (subst_vars; exact HO_7.out)))) (below_size (by repeat (first | (with_reducible first | exact HB.out | apply zBa | apply zBn | apply zBd | refine zBs ?_ GE365.out) | exact HB.out)))); have n4_ := Aside0.mk (zNb (g := gb365) (o := .cells #[.int .i64 a0_0, .int .i64 a0_1, .int .i64 a0_2, .int .i64 a0_3, .int .i64 a0_4, .int .i64 a0_5] 23 (0, 0)) (by (with_reducible repeat (first | apply zNn | apply zNd | apply zNa)); exact BK365.out) hb); have n5_ := Aside0.mk (below_step (by repeat (first | (with_reducible first | exact HB.out | apply zBa | apply zBn | apply zBd | refine zBs ?_ GE365.out) | exact HB.out)) hb); clear HO_5; clear HO_7; clear HO_8; clear BK365; clear HB; have HO_5 := n0_; have HO_7 := n1_; have HO_8 := n2_; have HO395 := n3_; have BK365 := n4_; have HB := n5_; clear n0_ n1_ n2_ n3_ n4_ n5_; (try clear hb); (try clear hb2); (try clear hk); (try clear hi); (try clear ho0); obtain ⟨Ao38, co38, eo38⟩ := Kd.R_slice HO395.out; subst eo38) | ((with_reducible refine gate_callee (f := 12) rfl ?_); refine goesL_ (some 47) rfl rfl Try.func12 (by kernel_rfl) rfl #[.slice Ao21 t379.length co21, .slice Ao38 t393.length co38] rfl (by (try simp only [List.map_toArray, List.map_cons, List.map_nil]); first | done | rfl | (simp only [List.length_drop, List.length_take]; rfl)) ?_; (with_reducible refine (laws_eqByteS.calls kj10 _ _ t379 _ _ t393 true _ ?side1 ?side2 ?side3 ?side4 A33.out).mono ?_); (case side1 => repeat (first | exact (Kd.R_reads' HO_7.out).2.2 | (with_reducible first | refine zCa ?_ _ | refine zCn ?_ _ | refine zCd ?_))); (case side2 => exact (Kd.R_reads' HO_7.out).2.1); (case side3 => repeat (first | exact (Kd.R_reads' HO395.out).2.2 | (with_reducible first | refine zCa ?_ _ | refine zCn ?_ _ | refine zCd ?_))); (case side4 => exact (Kd.R_reads' HO395.out).2.1); rintro e w' ⟨rfl, ⟨nd, rfl⟩⟩; refine ⟨_, rfl, ?_⟩) | ((with_reducible refine gate_callee (f := 13) rfl ?_); refine goesL_ (some 51) rfl rfl Try.func13 (by kernel_rfl) rfl #[.slice Ao21 t379.length co21, .int .i64 1] rfl (by (try simp only [List.map_toArray, List.map_cons, List.map_nil]); first | done | rfl | (simp only [List.length_drop, List.length_take]; rfl)) ?_; (with_reducible refine (laws_markByteS.calls kj10 (fun k_ => some k_ = (.slice Ao21 t379.length co21 : Value).ownBlock) (.slice Ao21 t379.length co21) t379 1 t397 t398 w _ ?side1 ?side2 A35.out).mono ?_); (case side1 => repeat (first | (with_reducible first | exact HB.out | apply zBa | apply zBn | apply zBd | refine zBs ?_ GE365.out) | exact HB.out)); (case side2 => exact Kd.R_tight rfl HO_7.out); rintro e w39 ⟨rfl, hy0, hb, hkp⟩; refine ⟨_, rfl, ?_⟩; have n0_ := Aside0.mk (Kd.R_mono (ok' := fun k_ => some k_ ≠ (v389 : Value).ownBlock) (Kd.R_keptB ((Kd.R_apart' HO_5.out (Kd.R_typed HO_7.out) (by decide))) hkp (fun k_ hk_ hs_ => (hk_.2) hs_)) (fun k_ hk_ => hk_.1.1)); have n1_ := Aside0.mk (Kd.R_reok rfl hy0 (fun k_ e_ => HO_7.out.1 k_ e_)); have n2_ := Aside0.mk (Kd.R_mono (ok' := fun k_ => some k_ ≠ (v376 : Value).ownBlock) (Kd.R_keptB ((Kd.R_apart' HO_8.out (Kd.R_typed HO_7.out) (by decide))) hkp (fun k_ hk_ hs_ => (hk_.2) hs_)) (fun k_ hk_ => hk_.1.1)); have n3_ := Aside0.mk (blk_kept (by (with_reducible repeat (first | apply zNn | apply zNd | apply zNa)); exact BK365.out) hkp (fun hs_ => (fun e_ => (Kd.R_ne HO_7.out BK365.out (by decide)) e_) hs_)); have n4_ := Aside0.mk (Kd.R_mono (ok' := fun k_ => some k_ ≠ (.slice Ao21 t379.length co21 : Value).ownBlock) (Kd.R_keptB (HO395.out) hkp (fun k_ hk_ hs_ => (hk_.2) hs_)) (fun k_ hk_ => hk_.1.2)); have n5_ := Aside0.mk (hb); clear HO_5; clear HO_7; clear HO_8; clear BK365; clear HO395; clear HB; have HO_5 := n0_; have HO_7 := n1_; have HO_8 := n2_; have BK365 := n3_; have HO395 := n4_; have HB := n5_; clear n0_ n1_ n2_ n3_ n4_ n5_; (try clear hb); (try clear hkp); (try clear hy0)))
   (try simp only [Act.put, List.setIfInBounds_toArray, List.set_cons_zero, List.set_cons_succ])
   go_cut [64] (fun v64 wc => ∃ (kq : Nat) (x64_35 : Bool), v64 = .bool x64_35 ∧ Aside0 (laws_FnExactSend.j1 kq l1 t375 t378 t388 x64_35 a0_0 a0_1 a0_2 a0_3 a0_4 a0_5 = some r) ∧ Aside0 (kq ≤ kj10) ∧ Aside0 (Kd.R k52 52 wc w.heap.size (fun k_ => some k_ ≠ (v389 : Value).ownBlock) v376 t375) ∧ Aside0 (Kd.R k52 52 wc w.heap.size (fun k_ => some k_ ≠ (v376 : Value).ownBlock) v389 t388) ∧ Aside0 (wc.heap[gb365]? = some (.cells #[.int .i64 a0_0, .int .i64 a0_1, .int .i64 a0_2, .int .i64 a0_3, .int .i64 a0_4, .int .i64 a0_5] 23 (0, 0))) ∧ Aside0 (Below w.heap.size w wc))
   case first =>
    have H := HC36.out
    clear HC36
    by_cases c40 : t397 < 0
    case pos =>
     rw [if_pos c40] at H
     have c40b0 : decide (t397 < 0) = true := zE c40
     clear c40
     (first | rw [c40b0] | (simp only [i64_w, i32_w]; rw [c40b0]) | skip)
     have H' := Aside0.mk H
     clear H
     go_wp2
     go_meet
     case rel => exact ⟨_, (true), (by first | rfl | (simp; done) | (simp [*]; done)), H', ⟨by have := HJ10.out; first | omega | exact Nat.le_refl _⟩, ⟨by (with_reducible repeat (first | apply zRa | apply zRn | apply zRd)); first | exact HO_5.out | (subst_vars; exact HO_5.out)⟩, ⟨by (with_reducible repeat (first | apply zRa | apply zRn | apply zRd)); first | exact HO_8.out | (subst_vars; exact HO_8.out)⟩, ⟨by (with_reducible repeat (first | apply zNn | apply zNd | apply zNa)); exact BK365.out⟩, ⟨by repeat (first | (with_reducible first | exact HB.out | apply zBa | apply zBn | apply zBd | refine zBs ?_ GE365.out) | exact HB.out)⟩⟩
    rw [if_neg c40] at H
    have c40b0 : decide (t397 < 0) = false := decide_eq_false c40
    clear c40
    (first | rw [c40b0] | (simp only [i64_w, i32_w]; rw [c40b0]) | skip)
    replace H := Option.bind_eq_some_iff.mp H
    obtain ⟨t399, A410, H⟩ := H
    replace H : (if t399 = true then (laws_FnExactSend.j1 kj10 l1 t375 t378 t388 (t391 != t378) a0_0 a0_1 a0_2 a0_3 a0_4 a0_5) else (laws_FnExactSend.j1 kj10 l1 t375 t378 t388 true a0_0 a0_1 a0_2 a0_3 a0_4 a0_5)) = some r := H
    have A41 := Aside0.mk A410
    clear A410
    by_cases c42 : t399 = true
    case pos =>
     subst c42
     have H1 : (laws_FnExactSend.j1 kj10 l1 t375 t378 t388 (t391 != t378) a0_0 a0_1 a0_2 a0_3 a0_4 a0_5) = some r := by rw [if_pos rfl] at H; exact H
     clear H
     have H := H1
     clear H1
     have H' := Aside0.mk H
     clear H
     obtain ⟨Ao43, co43, eo43⟩ := Kd.R_slice HO_8.out
     subst eo43
     obtain ⟨Ao44, co44, eo44⟩ := Kd.R_slice HO_5.out
     subst eo44
     go_wp2_with (first | (go_at_call 11; (with_reducible refine (laws_eqPointS.calls kj10 _ _ t388 _ _ t375 true _ ?side1 ?side2 ?side3 ?side4 A41.out).mono ?_); (case side1 => repeat (first | exact (Kd.R_reads' HO_8.out).2.2 | (with_reducible first | refine zCa ?_ _ | refine zCn ?_ _ | refine zCd ?_))); (case side2 => exact (Kd.R_reads' HO_8.out).2.1); (case side3 => repeat (first | exact (Kd.R_reads' HO_5.out).2.2 | (with_reducible first | refine zCa ?_ _ | refine zCn ?_ _ | refine zCd ?_))); (case side4 => exact (Kd.R_reads' HO_5.out).2.1); rintro e w45 ⟨rfl, hb⟩; have n0_ := Aside0.mk (Kd.R_below (by (with_reducible repeat (first | apply zRa | apply zRn | apply zRd)); first | exact HO_5.out | (subst_vars; exact HO_5.out)) hb); have n1_ := Aside0.mk (Kd.R_below (by (with_reducible repeat (first | apply zRa | apply zRn | apply zRd)); first | exact HO_7.out | (subst_vars; exact HO_7.out)) hb); have n2_ := Aside0.mk (Kd.R_below (by (with_reducible repeat (first | apply zRa | apply zRn | apply zRd)); first | exact HO_8.out | (subst_vars; exact HO_8.out)) hb); have n3_ := Aside0.mk (Kd.R_below (by (with_reducible repeat (first | apply zRa | apply zRn | apply zRd)); first | exact HO395.out | (subst_vars; exact HO395.out)) hb); have n4_ := Aside0.mk (zNb (g := gb365) (o := .cells #[.int .i64 a0_0, .int .i64 a0_1, .int .i64 a0_2, .int .i64 a0_3, .int .i64 a0_4, .int .i64 a0_5] 23 (0, 0)) (by (with_reducible repeat (first | apply zNn | apply zNd | apply zNa)); exact BK365.out) hb); have n5_ := Aside0.mk (below_step (by repeat (first | (with_reducible first | exact HB.out | apply zBa | apply zBn | apply zBd | refine zBs ?_ GE365.out) | exact HB.out)) hb); clear HO_5; clear HO_7; clear HO_8; clear HO395; clear BK365; clear HB; have HO_5 := n0_; have HO_7 := n1_; have HO_8 := n2_; have HO395 := n3_; have BK365 := n4_; have HB := n5_; clear n0_ n1_ n2_ n3_ n4_ n5_; (try clear hb); (try clear hb2); (try clear hk); (try clear hi)))
     go_meet
     case rel => exact ⟨_, ((t391 != t378)), (by first | rfl | (simp; done) | (simp [*]; done)), H', ⟨by have := HJ10.out; first | omega | exact Nat.le_refl _⟩, ⟨by (with_reducible repeat (first | apply zRa | apply zRn | apply zRd)); first | exact HO_5.out | (subst_vars; exact HO_5.out)⟩, ⟨by (with_reducible repeat (first | apply zRa | apply zRn | apply zRd)); first | exact HO_8.out | (subst_vars; exact HO_8.out)⟩, ⟨by (with_reducible repeat (first | apply zNn | apply zNd | apply zNa)); exact BK365.out⟩, ⟨by repeat (first | (with_reducible first | exact HB.out | apply zBa | apply zBn | apply zBd | refine zBs ?_ GE365.out) | exact HB.out)⟩⟩
    replace c42 := Bool.eq_false_iff.mpr c42
    subst c42
    have H1 : (laws_FnExactSend.j1 kj10 l1 t375 t378 t388 true a0_0 a0_1 a0_2 a0_3 a0_4 a0_5) = some r := by rw [if_neg (show ¬ (false = true) by decide)] at H; exact H
    clear H
    have H := H1
    clear H1
    have H' := Aside0.mk H
    clear H
    obtain ⟨Ao46, co46, eo46⟩ := Kd.R_slice HO_8.out
    subst eo46
    obtain ⟨Ao47, co47, eo47⟩ := Kd.R_slice HO_5.out
    subst eo47
    go_wp2_with (first | (go_at_call 11; (with_reducible refine (laws_eqPointS.calls kj10 _ _ t388 _ _ t375 false _ ?side1 ?side2 ?side3 ?side4 A41.out).mono ?_); (case side1 => repeat (first | exact (Kd.R_reads' HO_8.out).2.2 | (with_reducible first | refine zCa ?_ _ | refine zCn ?_ _ | refine zCd ?_))); (case side2 => exact (Kd.R_reads' HO_8.out).2.1); (case side3 => repeat (first | exact (Kd.R_reads' HO_5.out).2.2 | (with_reducible first | refine zCa ?_ _ | refine zCn ?_ _ | refine zCd ?_))); (case side4 => exact (Kd.R_reads' HO_5.out).2.1); rintro e w48 ⟨rfl, hb⟩; have n0_ := Aside0.mk (Kd.R_below (by (with_reducible repeat (first | apply zRa | apply zRn | apply zRd)); first | exact HO_5.out | (subst_vars; exact HO_5.out)) hb); have n1_ := Aside0.mk (Kd.R_below (by (with_reducible repeat (first | apply zRa | apply zRn | apply zRd)); first | exact HO_7.out | (subst_vars; exact HO_7.out)) hb); have n2_ := Aside0.mk (Kd.R_below (by (with_reducible repeat (first | apply zRa | apply zRn | apply zRd)); first | exact HO_8.out | (subst_vars; exact HO_8.out)) hb); have n3_ := Aside0.mk (Kd.R_below (by (with_reducible repeat (first | apply zRa | apply zRn | apply zRd)); first | exact HO395.out | (subst_vars; exact HO395.out)) hb); have n4_ := Aside0.mk (zNb (g := gb365) (o := .cells #[.int .i64 a0_0, .int .i64 a0_1, .int .i64 a0_2, .int .i64 a0_3, .int .i64 a0_4, .int .i64 a0_5] 23 (0, 0)) (by (with_reducible repeat (first | apply zNn | apply zNd | apply zNa)); exact BK365.out) hb); have n5_ := Aside0.mk (below_step (by repeat (first | (with_reducible first | exact HB.out | apply zBa | apply zBn | apply zBd | refine zBs ?_ GE365.out) | exact HB.out)) hb); clear HO_5; clear HO_7; clear HO_8; clear HO395; clear BK365; clear HB; have HO_5 := n0_; have HO_7 := n1_; have HO_8 := n2_; have HO395 := n3_; have BK365 := n4_; have HB := n5_; clear n0_ n1_ n2_ n3_ n4_ n5_; (try clear hb); (try clear hb2); (try clear hk); (try clear hi)))
    go_meet
    case rel => exact ⟨_, (true), (by first | rfl | (simp; done) | (simp [*]; done)), H', ⟨by have := HJ10.out; first | omega | exact Nat.le_refl _⟩, ⟨by (with_reducible repeat (first | apply zRa | apply zRn | apply zRd)); first | exact HO_5.out | (subst_vars; exact HO_5.out)⟩, ⟨by (with_reducible repeat (first | apply zRa | apply zRn | apply zRd)); first | exact HO_8.out | (subst_vars; exact HO_8.out)⟩, ⟨by (with_reducible repeat (first | apply zNn | apply zNd | apply zNa)); exact BK365.out⟩, ⟨by repeat (first | (with_reducible first | exact HB.out | apply zBa | apply zBn | apply zBd | refine zBs ?_ GE365.out) | exact HB.out)⟩⟩
   case rest =>
    clear HC36
    try clear c1
    try clear c2
    try clear p2
    try clear c3
    try clear c3b0
    try clear c3b1
    try clear c4
    try clear c7
    try clear c8
    try clear c9
    try clear c10
    try clear c11
    try clear c12
    try clear c13
    try clear c24
    try clear c31
    try clear c34
    try clear c40
    try clear c40b0
    try clear c42
    try clear hcz13_0
    try clear hcz13_1
    try clear hcz13_2
    try clear hcz13_3
    try clear hcz13_4
    try clear hcz13_5
    try clear hcz19_0
    try clear hcz19_1
    try clear hcz19_2
    try clear hcz19_3
    try clear hcz19_4
    try clear hcz19_5
    try clear hfz13_0
    try clear hfz13_1
    try clear hfz13_2
    try clear hfz13_3
    try clear hfz13_4
    try clear hfz13_5
    try clear hfz19_0
    try clear hfz19_1
    try clear hfz19_2
    try clear hfz19_3
    try clear hfz19_4
    try clear hfz19_5
    try clear p2
    obtain ⟨kq, x64_35, rfl, HA, HJ35, HO_5, HO_8, BK365, HB⟩ := hcut
    cases kq with
    | zero => exact absurd HA.out (by simp [laws_FnExactSend.j1])
    | succ kj35 =>
     have H := HA.out
     clear HA
     simp only [laws_FnExactSend.j1] at H
     by_cases c49 : x64_35 = true
     case pos =>
      subst c49
      have H1 : (some false) = some r := by rw [if_pos rfl] at H; exact H
      clear H
      have H := H1
      clear H1
      exact absurd (Option.some.inj H) (by rw [hr_]; decide)
     replace c49 := Bool.eq_false_iff.mpr c49
     subst c49
     have H1 : ((laws_markPointS.f kj35 t388 1).bind fun bt400 => ((laws_heldPointS.f kj35 bt400.2 1).bind fun t402 => (if t402 < 0 then (some false) else (if t402 = bt400.1 then ((laws_toModem.f a0_0 a0_1 a0_2 a0_3 a0_4 a0_5).bind fun bt403 => ((laws_toByteS.f kj35 l1).bind fun t409 => ((impl_Send.f kj35 bt403.1 bt403.2.1 bt403.2.2.1 bt403.2.2.2.1 bt403.2.2.2.2.1 bt403.2.2.2.2.2 t409).bind fun bt412 => ((laws_eqPointS.f kj35 bt412.1 t375).bind fun t416 => (if t416 = true then (laws_FnExactSend.j2 kj35 bt400.2 bt400.1 (bt412.2 != t378)) else (laws_FnExactSend.j2 kj35 bt400.2 bt400.1 true)))))) else (some false))))) = some r := by rw [if_neg (show ¬ (false = true) by decide)] at H; exact H
     clear H
     have H := H1
     clear H1
     replace H := Option.bind_eq_some_iff.mp H
     obtain ⟨⟨t400, t401⟩, A500, H⟩ := H
     replace H : ((laws_heldPointS.f kj35 t401 1).bind fun t402 => (if t402 < 0 then (some false) else (if t402 = t400 then ((laws_toModem.f a0_0 a0_1 a0_2 a0_3 a0_4 a0_5).bind fun bt403 => ((laws_toByteS.f kj35 l1).bind fun t409 => ((impl_Send.f kj35 bt403.1 bt403.2.1 bt403.2.2.1 bt403.2.2.2.1 bt403.2.2.2.2.1 bt403.2.2.2.2.2 t409).bind fun bt412 => ((laws_eqPointS.f kj35 bt412.1 t375).bind fun t416 => (if t416 = true then (laws_FnExactSend.j2 kj35 t401 t400 (bt412.2 != t378)) else (laws_FnExactSend.j2 kj35 t401 t400 true)))))) else (some false)))) = some r := H
     have A50 := Aside0.mk A500
     clear A500
     replace H := Option.bind_eq_some_iff.mp H
     obtain ⟨t402, A510, H⟩ := H
     replace H : (if t402 < 0 then (some false) else (if t402 = t400 then ((laws_toModem.f a0_0 a0_1 a0_2 a0_3 a0_4 a0_5).bind fun bt403 => ((laws_toByteS.f kj35 l1).bind fun t409 => ((impl_Send.f kj35 bt403.1 bt403.2.1 bt403.2.2.1 bt403.2.2.2.1 bt403.2.2.2.2.1 bt403.2.2.2.2.2 t409).bind fun bt412 => ((laws_eqPointS.f kj35 bt412.1 t375).bind fun t416 => (if t416 = true then (laws_FnExactSend.j2 kj35 t401 t400 (bt412.2 != t378)) else (laws_FnExactSend.j2 kj35 t401 t400 true)))))) else (some false))) = some r := H
     have A51 := Aside0.mk A510
     clear A510
     by_cases c52 : t402 < 0
     case pos =>
      rw [if_pos c52] at H
      have c52b0 : decide (t402 < 0) = true := zE c52
      clear c52
      exact absurd (Option.some.inj H) (by rw [hr_]; decide)
     rw [if_neg c52] at H
     have c52b0 : decide (t402 < 0) = false := decide_eq_false c52
     clear c52
     by_cases c53 : t402 = t400
     case neg =>
      rw [if_neg c53] at H
      have c53b0 : (t402 == t400) = false := beq_eq_false_iff_ne.mpr c53
      have c53b1 : (t402 != t400) = true := bne_iff_ne.mpr c53
      exact absurd (Option.some.inj H) (by rw [hr_]; decide)
     rw [if_pos c53] at H
     have c53b0 : (t402 == t400) = true := beq_iff_eq.mpr c53
     have c53b1 : (t402 != t400) = false := bne_eq_false_iff_eq.mpr c53
     clear c53
     replace H := Option.bind_eq_some_iff.mp H
     obtain ⟨⟨t403, t404, t405, t406, t407, t408⟩, A540, H⟩ := H
     replace H : ((laws_toByteS.f kj35 l1).bind fun t409 => ((impl_Send.f kj35 t403 t404 t405 t406 t407 t408 t409).bind fun bt412 => ((laws_eqPointS.f kj35 bt412.1 t375).bind fun t416 => (if t416 = true then (laws_FnExactSend.j2 kj35 t401 t400 (bt412.2 != t378)) else (laws_FnExactSend.j2 kj35 t401 t400 true))))) = some r := H
     have A54 := Aside0.mk A540
     clear A540
     replace H := Option.bind_eq_some_iff.mp H
     obtain ⟨t409, A550, H⟩ := H
     replace H : ((impl_Send.f kj35 t403 t404 t405 t406 t407 t408 t409).bind fun bt412 => ((laws_eqPointS.f kj35 bt412.1 t375).bind fun t416 => (if t416 = true then (laws_FnExactSend.j2 kj35 t401 t400 (bt412.2 != t378)) else (laws_FnExactSend.j2 kj35 t401 t400 true)))) = some r := H
     have A55 := Aside0.mk A550
     clear A550
     replace H := Option.bind_eq_some_iff.mp H
     obtain ⟨⟨t412, t415⟩, A560, H⟩ := H
     replace H : ((laws_eqPointS.f kj35 t412 t375).bind fun t416 => (if t416 = true then (laws_FnExactSend.j2 kj35 t401 t400 (t415 != t378)) else (laws_FnExactSend.j2 kj35 t401 t400 true))) = some r := H
     have A56 := Aside0.mk A560
     clear A560
     have HC57 := Aside0.mk H
     clear H
     obtain ⟨Ao58, co58, eo58⟩ := Kd.R_slice HO_8.out
     subst eo58
     go_upto_region 23 with (first | ((with_reducible refine gate_callee (f := 14) rfl ?_); refine goesL_ (some 67) rfl rfl Try.func14 (by kernel_rfl) rfl #[.slice Ao58 t388.length co58, .int .i64 1] rfl (by (try simp only [List.map_toArray, List.map_cons, List.map_nil]); first | done | rfl | (simp only [List.length_drop, List.length_take]; rfl)) ?_; (with_reducible refine (laws_markPointS.calls kj35 (fun k_ => some k_ = (.slice Ao58 t388.length co58 : Value).ownBlock) (.slice Ao58 t388.length co58) t388 1 t400 t401 w _ ?side1 ?side2 A50.out).mono ?_); (case side1 => repeat (first | (with_reducible first | exact HB.out | apply zBa | apply zBn | apply zBd | refine zBs ?_ GE365.out) | exact HB.out)); (case side2 => exact Kd.R_tight rfl HO_8.out); rintro e w59 ⟨rfl, hy0, hb, hkp⟩; refine ⟨_, rfl, ?_⟩; have n0_ := Aside0.mk (Kd.R_mono (ok' := fun k_ => some k_ ≠ (.slice Ao58 t388.length co58 : Value).ownBlock) (Kd.R_keptB (HO_5.out) hkp (fun k_ hk_ hs_ => (hk_) hs_)) (fun k_ hk_ => hk_.1)); have n1_ := Aside0.mk (Kd.R_reok rfl hy0 (fun k_ e_ => HO_8.out.1 k_ e_)); have n2_ := Aside0.mk (blk_kept (by (with_reducible repeat (first | apply zNn | apply zNd | apply zNa)); exact BK365.out) hkp (fun hs_ => (fun e_ => (Kd.R_ne HO_8.out BK365.out (by decide)) e_) hs_)); have n3_ := Aside0.mk (hb); clear HO_5; clear HO_8; clear BK365; clear HB; have HO_5 := n0_; have HO_8 := n1_; have BK365 := n2_; have HB := n3_; clear n0_ n1_ n2_ n3_; (try clear hb); (try clear hkp); (try clear hy0)) | ((with_reducible refine gate_callee (f := 15) rfl ?_); refine goesL_ (some 70) rfl rfl Try.func15 (by kernel_rfl) rfl #[.slice Ao58 t401.length co58, .int .i64 1] rfl (by (try simp only [List.map_toArray, List.map_cons, List.map_nil]); first | done | (rw [show t401.length = t388.length from (Kd.R_reads' HO_8.out).1.symm] <;> rfl) | rfl | (simp only [List.length_drop, List.length_take]; rfl)) ?_; (with_reducible refine (laws_heldPointS.calls kj35 _ _ t401 1 t402 _ ?side1 ?side2 A51.out).mono ?_); (case side1 => repeat (first | exact (Kd.R_reads' HO_8.out).2.2 | (with_reducible first | refine zCa ?_ _ | refine zCn ?_ _ | refine zCd ?_))); (case side2 => rw [show t401.length = t388.length from (Kd.R_reads' HO_8.out).1.symm]; exact (Kd.R_reads' HO_8.out).2.1); rintro e w' ⟨rfl, ⟨nd, rfl⟩⟩; refine ⟨_, rfl, ?_⟩; have hcz60_0 : w59.cell? ⟨gb365, 0, none⟩ = some (.int .i64 a0_0) := (blk_cell BK365.out 0).trans rfl; have hcz60_1 : w59.cell? ⟨gb365, 1, none⟩ = some (.int .i64 a0_1) := (blk_cell BK365.out 1).trans rfl; have hcz60_2 : w59.cell? ⟨gb365, 2, none⟩ = some (.int .i64 a0_2) := (blk_cell BK365.out 2).trans rfl; have hcz60_3 : w59.cell? ⟨gb365, 3, none⟩ = some (.int .i64 a0_3) := (blk_cell BK365.out 3).trans rfl; have hcz60_4 : w59.cell? ⟨gb365, 4, none⟩ = some (.int .i64 a0_4) := (blk_cell BK365.out 4).trans rfl; have hcz60_5 : w59.cell? ⟨gb365, 5, none⟩ = some (.int .i64 a0_5) := (blk_cell BK365.out 5).trans rfl; have hfz60_0 := blk_frozen BK365.out 0; have hfz60_1 := blk_frozen BK365.out 1; have hfz60_2 := blk_frozen BK365.out 2; have hfz60_3 := blk_frozen BK365.out 3; have hfz60_4 := blk_frozen BK365.out 4; have hfz60_5 := blk_frozen BK365.out 5) | ((with_reducible refine gate_callee (f := 8) rfl ?_); refine goesL_ (some 78) rfl rfl Try.func8 (by kernel_rfl) rfl #[.agg #[.int .i64 a0_0, .int .i64 a0_1, .int .i64 a0_2, .int .i64 a0_3, .int .i64 a0_4, .int .i64 a0_5]] rfl (by (try simp only [List.map_toArray, List.map_cons, List.map_nil]); first | done | rfl | (simp only [List.length_drop, List.length_take]; rfl)) ?_; (with_reducible refine (laws_toModem.calls a0_0 a0_1 a0_2 a0_3 a0_4 a0_5 t403 t404 t405 t406 t407 t408 _ A54.out).mono ?_); rintro e w61 ⟨rfl, hb⟩; refine ⟨_, rfl, ?_⟩; have n0_ := Aside0.mk (Kd.R_below (by (with_reducible repeat (first | apply zRa | apply zRn | apply zRd)); first | exact HO_5.out | (subst_vars; exact HO_5.out)) hb); have n1_ := Aside0.mk (Kd.R_below (by (with_reducible repeat (first | apply zRa | apply zRn | apply zRd)); first | exact HO_8.out | (subst_vars; exact HO_8.out)) hb); have n2_ := Aside0.mk (zNb (g := gb365) (o := .cells #[.int .i64 a0_0, .int .i64 a0_1, .int .i64 a0_2, .int .i64 a0_3, .int .i64 a0_4, .int .i64 a0_5] 23 (0, 0)) (by (with_reducible repeat (first | apply zNn | apply zNd | apply zNa)); exact BK365.out) hb); have n3_ := Aside0.mk (below_step (by repeat (first | (with_reducible first | exact HB.out | apply zBa | apply zBn | apply zBd | refine zBs ?_ GE365.out) | exact HB.out)) hb); clear HO_5; clear HO_8; clear BK365; clear HB; have HO_5 := n0_; have HO_8 := n1_; have BK365 := n2_; have HB := n3_; clear n0_ n1_ n2_ n3_; (try clear hb); (try clear hb2); (try clear hk); (try clear hi)) | ((with_reducible refine gate_callee (f := 9) rfl ?_); refine goesL_ (some 80) rfl rfl Try.func9 (by kernel_rfl) rfl #[.slice A1 l1.length c1] rfl (by (try simp only [List.map_toArray, List.map_cons, List.map_nil]); first | done | rfl | (simp only [List.length_drop, List.length_take]; rfl)) ?_; (with_reducible refine (laws_toByteS.calls kj35 _ _ l1 t409 _ ?side1 ?side2 A55.out).mono ?_); (case side1 => repeat (first | exact (Kd.C_below HR1.out HB.out) | (with_reducible first | refine zCa ?_ _ | refine zCn ?_ _ | refine zCd ?_))); (case side2 => exact HC1.out); rintro e w62 ⟨v410, rfl, ho0, hb⟩; refine ⟨_, rfl, ?_⟩; have n0_ := Aside0.mk (Kd.R_below (by (with_reducible repeat (first | apply zRa | apply zRn | apply zRd)); first | exact HO_5.out | (subst_vars; exact HO_5.out)) hb); have n1_ := Aside0.mk (Kd.R_below (by (with_reducible repeat (first | apply zRa | apply zRn | apply zRd)); first | exact HO_8.out | (subst_vars; exact HO_8.out)) hb); have n2_ := Aside0.mk (Kd.R_lower ho0 (below_size (by repeat (first | (with_reducible first | exact HB.out | apply zBa | apply zBn | apply zBd | refine zBs ?_ GE365.out) | exact HB.out)))); have n3_ := Aside0.mk (zNb (g := gb365) (o := .cells #[.int .i64 a0_0, .int .i64 a0_1, .int .i64 a0_2, .int .i64 a0_3, .int .i64 a0_4, .int .i64 a0_5] 23 (0, 0)) (by (with_reducible repeat (first | apply zNn | apply zNd | apply zNa)); exact BK365.out) hb); have n4_ := Aside0.mk (below_step (by repeat (first | (with_reducible first | exact HB.out | apply zBa | apply zBn | apply zBd | refine zBs ?_ GE365.out) | exact HB.out)) hb); clear HO_5; clear HO_8; clear BK365; clear HB; have HO_5 := n0_; have HO_8 := n1_; have HO411 := n2_; have BK365 := n3_; have HB := n4_; clear n0_ n1_ n2_ n3_ n4_; (try clear hb); (try clear hb2); (try clear hk); (try clear hi); (try clear ho0); obtain ⟨Ao63, co63, eo63⟩ := Kd.R_slice HO411.out; subst eo63) | ((with_reducible refine gate_callee (f := 10) rfl ?_); refine goesL_ (some 81) rfl rfl Try.func10 (by kernel_rfl) rfl #[.agg #[.int .i64 t403, .int .i64 t404, .int .i64 t405, .int .i64 t406, .int .i64 t407, .int .i64 t408], .slice Ao63 t409.length co63] rfl (by (try simp only [List.map_toArray, List.map_cons, List.map_nil]); first | done | rfl | (simp only [List.length_drop, List.length_take]; rfl)) ?_; (with_reducible refine (impl_Send.calls kj35 t403 t404 t405 t406 t407 t408 _ _ t409 t412 t415 _ ?side1 ?side2 A56.out).mono ?_); (case side1 => repeat (first | exact (Kd.R_reads' HO411.out).2.2 | (with_reducible first | refine zCa ?_ _ | refine zCn ?_ _ | refine zCd ?_))); (case side2 => exact (Kd.R_reads' HO411.out).2.1); rintro e w64 ⟨v413, rfl, ho0, hb⟩; refine ⟨_, rfl, ?_⟩; have n0_ := Aside0.mk (Kd.R_elder' (by (with_reducible repeat (first | apply zRa | apply zRn | apply zRd)); first | exact HO_5.out | (subst_vars; exact HO_5.out)) (Kd.R_base ho0) hb); have n1_ := Aside0.mk (Kd.R_elder' (by (with_reducible repeat (first | apply zRa | apply zRn | apply zRd)); first | exact HO_8.out | (subst_vars; exact HO_8.out)) (Kd.R_base ho0) hb); have n2_ := Aside0.mk (Kd.R_below (by (with_reducible repeat (first | apply zRa | apply zRn | apply zRd)); first | exact HO411.out | (subst_vars; exact HO411.out)) hb); have n3_ := Aside0.mk (Kd.R_lower (Kd.R_new' (Kd.R_new' ho0 (Kd.R_lt (by (with_reducible repeat (first | apply zRa | apply zRn | apply zRd)); first | exact HO_5.out | (subst_vars; exact HO_5.out)))) (Kd.R_lt (by (with_reducible repeat (first | apply zRa | apply zRn | apply zRd)); first | exact HO_8.out | (subst_vars; exact HO_8.out)))) (below_size (by repeat (first | (with_reducible first | exact HB.out | apply zBa | apply zBn | apply zBd | refine zBs ?_ GE365.out) | exact HB.out)))); have n4_ := Aside0.mk (zNb (g := gb365) (o := .cells #[.int .i64 a0_0, .int .i64 a0_1, .int .i64 a0_2, .int .i64 a0_3, .int .i64 a0_4, .int .i64 a0_5] 23 (0, 0)) (by (with_reducible repeat (first | apply zNn | apply zNd | apply zNa)); exact BK365.out) hb); have n5_ := Aside0.mk (below_step (by repeat (first | (with_reducible first | exact HB.out | apply zBa | apply zBn | apply zBd | refine zBs ?_ GE365.out) | exact HB.out)) hb); clear HO_5; clear HO_8; clear HO411; clear BK365; clear HB; have HO_5 := n0_; have HO_8 := n1_; have HO411 := n2_; have HO414 := n3_; have BK365 := n4_; have HB := n5_; clear n0_ n1_ n2_ n3_ n4_ n5_; (try clear hb); (try clear hb2); (try clear hk); (try clear hi); (try clear ho0)))
     (try simp only [Act.put, List.setIfInBounds_toArray, List.set_cons_zero, List.set_cons_succ])
     go_cut [92] (fun v92 wc => ∃ (kq : Nat) (x92_56 : Bool), v92 = .bool x92_56 ∧ Aside0 (laws_FnExactSend.j2 kq t401 t400 x92_56 = some r) ∧ Aside0 (kq ≤ kj35) ∧ Aside0 (Kd.R k52 52 wc w.heap.size (fun _ => True) (.slice Ao58 t388.length co58) t401) ∧ Aside0 (wc.heap[gb365]? = some (.cells #[.int .i64 a0_0, .int .i64 a0_1, .int .i64 a0_2, .int .i64 a0_3, .int .i64 a0_4, .int .i64 a0_5] 23 (0, 0))) ∧ Aside0 (Below w.heap.size w wc))
     case first =>
      have H := HC57.out
      clear HC57
      replace H := Option.bind_eq_some_iff.mp H
      obtain ⟨t416, A650, H⟩ := H
      replace H : (if t416 = true then (laws_FnExactSend.j2 kj35 t401 t400 (t415 != t378)) else (laws_FnExactSend.j2 kj35 t401 t400 true)) = some r := H
      have A65 := Aside0.mk A650
      clear A650
      by_cases c66 : t416 = true
      case pos =>
       subst c66
       have H1 : (laws_FnExactSend.j2 kj35 t401 t400 (t415 != t378)) = some r := by rw [if_pos rfl] at H; exact H
       clear H
       have H := H1
       clear H1
       have H' := Aside0.mk H
       clear H
       obtain ⟨Ao67, co67, eo67⟩ := Kd.R_slice HO414.out
       subst eo67
       obtain ⟨Ao68, co68, eo68⟩ := Kd.R_slice HO_5.out
       subst eo68
       go_wp2_with (first | ((with_reducible refine gate_callee (f := 11) rfl ?_); refine goesL_ (some 86) rfl rfl Try.func11 (by kernel_rfl) rfl #[.slice Ao67 t412.length co67, .slice Ao68 t375.length co68] rfl (by (try simp only [List.map_toArray, List.map_cons, List.map_nil]); first | done | rfl | (simp only [List.length_drop, List.length_take]; rfl)) ?_; (with_reducible refine (laws_eqPointS.calls kj35 _ _ t412 _ _ t375 true _ ?side1 ?side2 ?side3 ?side4 A65.out).mono ?_); (case side1 => repeat (first | exact (Kd.R_reads' HO414.out).2.2 | (with_reducible first | refine zCa ?_ _ | refine zCn ?_ _ | refine zCd ?_))); (case side2 => exact (Kd.R_reads' HO414.out).2.1); (case side3 => repeat (first | exact (Kd.R_reads' HO_5.out).2.2 | (with_reducible first | refine zCa ?_ _ | refine zCn ?_ _ | refine zCd ?_))); (case side4 => exact (Kd.R_reads' HO_5.out).2.1); rintro e w69 ⟨rfl, hb⟩; refine ⟨_, rfl, ?_⟩; have n0_ := Aside0.mk (Kd.R_below (by (with_reducible repeat (first | apply zRa | apply zRn | apply zRd)); first | exact HO_5.out | (subst_vars; exact HO_5.out)) hb); have n1_ := Aside0.mk (Kd.R_below (by (with_reducible repeat (first | apply zRa | apply zRn | apply zRd)); first | exact HO_8.out | (subst_vars; exact HO_8.out)) hb); have n2_ := Aside0.mk (Kd.R_below (by (with_reducible repeat (first | apply zRa | apply zRn | apply zRd)); first | exact HO411.out | (subst_vars; exact HO411.out)) hb); have n3_ := Aside0.mk (Kd.R_below (by (with_reducible repeat (first | apply zRa | apply zRn | apply zRd)); first | exact HO414.out | (subst_vars; exact HO414.out)) hb); have n4_ := Aside0.mk (zNb (g := gb365) (o := .cells #[.int .i64 a0_0, .int .i64 a0_1, .int .i64 a0_2, .int .i64 a0_3, .int .i64 a0_4, .int .i64 a0_5] 23 (0, 0)) (by (with_reducible repeat (first | apply zNn | apply zNd | apply zNa)); exact BK365.out) hb); have n5_ := Aside0.mk (below_step (by repeat (first | (with_reducible first | exact HB.out | apply zBa | apply zBn | apply zBd | refine zBs ?_ GE365.out) | exact HB.out)) hb); clear HO_5; clear HO_8; clear HO411; clear HO414; clear BK365; clear HB; have HO_5 := n0_; have HO_8 := n1_; have HO411 := n2_; have HO414 := n3_; have BK365 := n4_; have HB := n5_; clear n0_ n1_ n2_ n3_ n4_ n5_; (try clear hb); (try clear hb2); (try clear hk); (try clear hi)))
       go_meet
       case rel => exact ⟨_, ((t415 != t378)), (by first | rfl | (simp; done) | (simp [*]; done)), H', ⟨by have := HJ10.out; have := HJ35.out; first | omega | exact Nat.le_refl _⟩, ⟨by (with_reducible repeat (first | apply zRa | apply zRn | apply zRd)); first | exact Kd.R_mono HO_8.out (fun _ hk => trivial) | (subst_vars; exact Kd.R_mono HO_8.out (fun _ hk => trivial))⟩, ⟨by (with_reducible repeat (first | apply zNn | apply zNd | apply zNa)); exact BK365.out⟩, ⟨by repeat (first | (with_reducible first | exact HB.out | apply zBa | apply zBn | apply zBd | refine zBs ?_ GE365.out) | exact HB.out)⟩⟩
      replace c66 := Bool.eq_false_iff.mpr c66
      subst c66
      have H1 : (laws_FnExactSend.j2 kj35 t401 t400 true) = some r := by rw [if_neg (show ¬ (false = true) by decide)] at H; exact H
      clear H
      have H := H1
      clear H1
      have H' := Aside0.mk H
      clear H
      obtain ⟨Ao70, co70, eo70⟩ := Kd.R_slice HO414.out
      subst eo70
      obtain ⟨Ao71, co71, eo71⟩ := Kd.R_slice HO_5.out
      subst eo71
      go_wp2_with (first | ((with_reducible refine gate_callee (f := 11) rfl ?_); refine goesL_ (some 86) rfl rfl Try.func11 (by kernel_rfl) rfl #[.slice Ao70 t412.length co70, .slice Ao71 t375.length co71] rfl (by (try simp only [List.map_toArray, List.map_cons, List.map_nil]); first | done | rfl | (simp only [List.length_drop, List.length_take]; rfl)) ?_; (with_reducible refine (laws_eqPointS.calls kj35 _ _ t412 _ _ t375 false _ ?side1 ?side2 ?side3 ?side4 A65.out).mono ?_); (case side1 => repeat (first | exact (Kd.R_reads' HO414.out).2.2 | (with_reducible first | refine zCa ?_ _ | refine zCn ?_ _ | refine zCd ?_))); (case side2 => exact (Kd.R_reads' HO414.out).2.1); (case side3 => repeat (first | exact (Kd.R_reads' HO_5.out).2.2 | (with_reducible first | refine zCa ?_ _ | refine zCn ?_ _ | refine zCd ?_))); (case side4 => exact (Kd.R_reads' HO_5.out).2.1); rintro e w72 ⟨rfl, hb⟩; refine ⟨_, rfl, ?_⟩; have n0_ := Aside0.mk (Kd.R_below (by (with_reducible repeat (first | apply zRa | apply zRn | apply zRd)); first | exact HO_5.out | (subst_vars; exact HO_5.out)) hb); have n1_ := Aside0.mk (Kd.R_below (by (with_reducible repeat (first | apply zRa | apply zRn | apply zRd)); first | exact HO_8.out | (subst_vars; exact HO_8.out)) hb); have n2_ := Aside0.mk (Kd.R_below (by (with_reducible repeat (first | apply zRa | apply zRn | apply zRd)); first | exact HO411.out | (subst_vars; exact HO411.out)) hb); have n3_ := Aside0.mk (Kd.R_below (by (with_reducible repeat (first | apply zRa | apply zRn | apply zRd)); first | exact HO414.out | (subst_vars; exact HO414.out)) hb); have n4_ := Aside0.mk (zNb (g := gb365) (o := .cells #[.int .i64 a0_0, .int .i64 a0_1, .int .i64 a0_2, .int .i64 a0_3, .int .i64 a0_4, .int .i64 a0_5] 23 (0, 0)) (by (with_reducible repeat (first | apply zNn | apply zNd | apply zNa)); exact BK365.out) hb); have n5_ := Aside0.mk (below_step (by repeat (first | (with_reducible first | exact HB.out | apply zBa | apply zBn | apply zBd | refine zBs ?_ GE365.out) | exact HB.out)) hb); clear HO_5; clear HO_8; clear HO411; clear HO414; clear BK365; clear HB; have HO_5 := n0_; have HO_8 := n1_; have HO411 := n2_; have HO414 := n3_; have BK365 := n4_; have HB := n5_; clear n0_ n1_ n2_ n3_ n4_ n5_; (try clear hb); (try clear hb2); (try clear hk); (try clear hi)))
      go_meet
      case rel => exact ⟨_, (true), (by first | rfl | (simp; done) | (simp [*]; done)), H', ⟨by have := HJ10.out; have := HJ35.out; first | omega | exact Nat.le_refl _⟩, ⟨by (with_reducible repeat (first | apply zRa | apply zRn | apply zRd)); first | exact Kd.R_mono HO_8.out (fun _ hk => trivial) | (subst_vars; exact Kd.R_mono HO_8.out (fun _ hk => trivial))⟩, ⟨by (with_reducible repeat (first | apply zNn | apply zNd | apply zNa)); exact BK365.out⟩, ⟨by repeat (first | (with_reducible first | exact HB.out | apply zBa | apply zBn | apply zBd | refine zBs ?_ GE365.out) | exact HB.out)⟩⟩
     case rest =>
      clear HC57
      try clear c1
      try clear c2
      try clear p2
      try clear c3
      try clear c3b0
      try clear c3b1
      try clear c4
      try clear c5
      try clear c6
      try clear c7
      try clear c8
      try clear c9
      try clear c10
      try clear c11
      try clear c12
      try clear c13
      try clear c14
      try clear c15
      try clear c24
      try clear c31
      try clear c34
      try clear c40
      try clear c40b0
      try clear c42
      try clear c49
      try clear c52
      try clear c52b0
      try clear c53
      try clear c53b0
      try clear c53b1
      try clear c66
      try clear hcz13_0
      try clear hcz13_1
      try clear hcz13_2
      try clear hcz13_3
      try clear hcz13_4
      try clear hcz13_5
      try clear hcz19_0
      try clear hcz19_1
      try clear hcz19_2
      try clear hcz19_3
      try clear hcz19_4
      try clear hcz19_5
      try clear hcz60_0
      try clear hcz60_1
      try clear hcz60_2
      try clear hcz60_3
      try clear hcz60_4
      try clear hcz60_5
      try clear hfz13_0
      try clear hfz13_1
      try clear hfz13_2
      try clear hfz13_3
      try clear hfz13_4
      try clear hfz13_5
      try clear hfz19_0
      try clear hfz19_1
      try clear hfz19_2
      try clear hfz19_3
      try clear hfz19_4
      try clear hfz19_5
      try clear hfz60_0
      try clear hfz60_1
      try clear hfz60_2
      try clear hfz60_3
      try clear hfz60_4
      try clear hfz60_5
      try clear p2
      obtain ⟨kq, x92_56, rfl, HA, HJ56, HO_8, BK365, HB⟩ := hcut
      have hl8_56 := (Kd.R_reads' HO_8.out).1
      rw [hl8_56] at HO_8
      (try simp only [hl8_56])
      (try simp only [hl8_56] at BK365)
      cases kq with
      | zero => exact absurd HA.out (by simp [laws_FnExactSend.j2])
      | succ kj56 =>
       have H := HA.out
       clear HA
       simp only [laws_FnExactSend.j2] at H
       by_cases c73 : x92_56 = true
       case pos =>
        subst c73
        have H1 : (some false) = some r := by rw [if_pos rfl] at H; exact H
        clear H
        have H := H1
        clear H1
        exact absurd (Option.some.inj H) (by rw [hr_]; decide)
       replace c73 := Bool.eq_false_iff.mpr c73
       subst c73
       have H1 : ((laws_heldPointS.f kj56 t401 1).bind fun t417 => (if t417 < 0 then (some false) else (if t417 = t400 then (some true) else (some false)))) = some r := by rw [if_neg (show ¬ (false = true) by decide)] at H; exact H
       clear H
       have H := H1
       clear H1
       replace H := Option.bind_eq_some_iff.mp H
       obtain ⟨t417, A740, H⟩ := H
       replace H : (if t417 < 0 then (some false) else (if t417 = t400 then (some true) else (some false))) = some r := H
       have A74 := Aside0.mk A740
       clear A740
       by_cases c75 : t417 < 0
       case pos =>
        rw [if_pos c75] at H
        have c75b0 : decide (t417 < 0) = true := zE c75
        (try (have c75w_hl8_56 := c75b0; simp only [hl8_56] at c75w_hl8_56))
        clear c75
        exact absurd (Option.some.inj H) (by rw [hr_]; decide)
       rw [if_neg c75] at H
       have c75b0 : decide (t417 < 0) = false := decide_eq_false c75
       (try (have c75w_hl8_56 := c75b0; simp only [hl8_56] at c75w_hl8_56))
       clear c75
       by_cases c76 : t417 = t400
       case neg =>
        rw [if_neg c76] at H
        have c76b0 : (t417 == t400) = false := beq_eq_false_iff_ne.mpr c76
        have c76b1 : (t417 != t400) = true := bne_iff_ne.mpr c76
        (try (have c76w_hl8_56 := c76b0; simp only [hl8_56] at c76w_hl8_56))
        exact absurd (Option.some.inj H) (by rw [hr_]; decide)
       rw [if_pos c76] at H
       have c76b0 : (t417 == t400) = true := beq_iff_eq.mpr c76
       have c76b1 : (t417 != t400) = false := bne_eq_false_iff_eq.mpr c76
       (try (have c76w_hl8_56 := c76b0; simp only [hl8_56] at c76w_hl8_56))
       clear c76
       obtain rfl := Option.some.inj H
       go_wp2_with (first | ((with_reducible refine gate_callee (f := 15) rfl ?_); refine goesL_ (some 95) rfl rfl Try.func15 (by kernel_rfl) rfl #[.slice Ao58 t401.length co58, .int .i64 1] rfl (by (try simp only [List.map_toArray, List.map_cons, List.map_nil]); first | done | rfl | (simp only [List.length_drop, List.length_take]; rfl)) ?_; (with_reducible refine (laws_heldPointS.calls kj56 _ _ t401 1 t417 _ ?side1 ?side2 A74.out).mono ?_); (case side1 => repeat (first | exact (Kd.R_reads' HO_8.out).2.2 | (with_reducible first | refine zCa ?_ _ | refine zCn ?_ _ | refine zCd ?_))); (case side2 => exact (Kd.R_reads' HO_8.out).2.1); rintro e w' ⟨rfl, ⟨nd, rfl⟩⟩; refine ⟨_, rfl, ?_⟩))
       go_ret
       exact ⟨by first | rfl | (simp [errW_none, errW_some] <;> rfl) | (simp [*, errW_none, errW_some] <;> rfl), by repeat (first | (with_reducible first | exact HB.out | apply zBa | apply zBn | apply zBd | refine zBs ?_ GE365.out) | exact HB.out)⟩

end Go.Proofs.Ytapobpkeefeajaa.PFnExactSend
