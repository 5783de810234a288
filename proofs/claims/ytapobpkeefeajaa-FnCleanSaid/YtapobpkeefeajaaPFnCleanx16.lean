-- A turned copy of the print's text.
import Derived.Test.YtapobpkeefeajaaPFnCleanx0
import Derived.Test.YtapobpkeefeajaaPFnCleanx15
namespace Go.Proofs.Ytapobpkeefeajaa.PFnClean
open Go.RowKit Go.Proofs.YtapobpkeefeajaaW.PrintWords Go.Proofs.YtapobpkeefeajaaW.PrintLast Go.Proofs.YtapobpkeefeajaaW.PrintMore
attribute [local go_sem] max2_int min2_int max_two min_two max_three min_three max_four min_four
set_option maxHeartbeats 8000000
set_option maxRecDepth 100000
set_option linter.unusedVariables false
set_option linter.unusedSimpArgs false
def impl_down.f (a0 : Int) (a1 : Int) : Option (Int × Int) := if a1 = 0 then (none) else (if (Int.tmod a0 a1) < 0 then (some (wrap64 ((wrap64 (Int.tdiv a0 a1)) - 1), wrap64 ((Int.tmod a0 a1) + a1))) else (some (wrap64 (Int.tdiv a0 a1), Int.tmod a0 a1)))
theorem impl_down.calls (a0 : Int) (a1 : Int) (r1 : Int) (r2 : Int) (w : World) (H : impl_down.f a0 a1 = some (r1, r2)) :
 Calls Try.prog 100 #[.int .i64 a0, .int .i64 a1] w fun e w' => e = .returned (.tuple #[.int .i64 r1, .int .i64 r2]) ∧ Drawn0 w w' := by
 unfold impl_down.f at H
 replace H := zI2 H
 rcases H with ⟨c3, H⟩ | ⟨c3, H⟩
 case inl =>
  exact absurd H (by simp)
 have c3b0 : (a1 == 0) = false := beq_eq_false_iff_ne.mpr c3
 have c3b1 : (a1 != 0) = true := bne_iff_ne.mpr c3
 replace H := zI2 H
 rcases H with ⟨c4, H⟩ | ⟨c4, H⟩
 case inl =>
  have c4b0 := zE c4
  clear c4
  simp only [Option.some.injEq, Prod.mk.injEq] at H
  obtain ⟨rfl, rfl⟩ := H
  go_enter Try.func100, Try.ntmps100
  go_wp2
  repeat (go_quiet (fail); try go_wp2)
  go_ret2
  exact ⟨zs, zd⟩
 have c4b0 := decide_eq_false c4
 clear c4
 simp only [Option.some.injEq, Prod.mk.injEq] at H
 obtain ⟨rfl, rfl⟩ := H
 go_enter Try.func100, Try.ntmps100
 go_wp2
 repeat (go_quiet (fail); try go_wp2)
 go_ret2
 exact ⟨zs, zd⟩
def impl_RoundDiv.j0 : Nat → Int → Int → Bool → Option (Int)
 | 0, _, _, _ => none
 | k + 1, x0, x1, x17 => if x17 = true then (some 0) else ((impl_down.f x0 x1).bind fun bt498 => (if bt498.2 ≥ (wrap64 (x1 - bt498.2)) then (some (wrap64 (bt498.1 + 1))) else (some bt498.1)))
def impl_RoundDiv.f (k : Nat) (a0 : Int) (a1 : Int) : Option (Int) := if a1 < 1 then (impl_RoundDiv.j0 k a0 a1 true) else (if a1 > 4000000000000000000 then (impl_RoundDiv.j0 k a0 a1 true) else ((impl_big18.f a0).bind fun t497 => (impl_RoundDiv.j0 k a0 a1 (!t497))))
theorem impl_RoundDiv.calls (k : Nat) (a0 : Int) (a1 : Int) (r : Int) (w : World) (H : impl_RoundDiv.f k a0 a1 = some r) :
 Calls Try.prog 58 #[.int .i64 a0, .int .i64 a1] w fun e w' => e = .returned (.int .i64 r) ∧ Drawn0 w w' := by
 unfold impl_RoundDiv.f at H
 have HC3 := zM H
 clear H
 go_enter Try.func58, Try.ntmps58
 go_upto_region 1 with (fail)
 go_cut [17] (fun v17 wc => ∃ (kq : Nat) (x17_2 : Bool), v17 = .bool x17_2 ∧ Aside0 (impl_RoundDiv.j0 kq a0 a1 x17_2 = some r) ∧ Aside0 (kq ≤ k) ∧ Drawn0 w wc)
 case first =>
  have H := HC3.out
  clear HC3
  replace H := zI2 H
  rcases H with ⟨c4, H⟩ | ⟨c4, H⟩
  case inl =>
   have c4b0 := zE c4
   clear c4
   (first | rw [c4b0] | (simp only [i64_w, i32_w]; rw [c4b0]) | skip)
   have H' := zM H
   clear H
   go_wp2
   go_meet
   case rel => exact ⟨_, (true), zs, H', ⟨zo⟩, zd⟩
  have c4b0 := decide_eq_false c4
  clear c4
  (first | rw [c4b0] | (simp only [i64_w, i32_w]; rw [c4b0]) | skip)
  replace H := zI2 H
  rcases H with ⟨c5, H⟩ | ⟨c5, H⟩
  case inl =>
   have c5b0 : decide (4000000000000000000 < a1) = true := zE c5
   clear c5
   have H' := zM H
   clear H
   go_wp2
   go_meet
   case rel => exact ⟨_, (true), zs, H', ⟨zo⟩, zd⟩
  have c5b0 : decide (4000000000000000000 < a1) = false := decide_eq_false c5
  clear c5
  replace H := zP H
  obtain ⟨t497, A6, H⟩ := H
  have H' := zM H
  clear H
  go_wp2_with (first | (go_at_call 99; (with_reducible refine (impl_big18.calls a0 t497 _ A6.out).mono ?_); rintro e w' ⟨rfl, ⟨nd, rfl⟩⟩))
  go_meet
  case rel => exact ⟨_, (!t497), zs, H', ⟨zo⟩, zd⟩
 case rest =>
  clear HC3
  try clear p2
  try clear c4
  try clear c4b0
  try clear c5
  try clear c5b0
  obtain ⟨kq, x17_2, rfl, HA, HJ2, ⟨mc2, rfl⟩⟩ := hcut
  cases kq with
  | zero => exact absurd HA.out (by simp [impl_RoundDiv.j0])
  | succ kj2 =>
   have H := HA.out
   clear HA
   simp only [impl_RoundDiv.j0] at H
   by_cases c7 : x17_2 = true
   case pos =>
    subst c7
    rw [if_pos rfl] at H
    obtain rfl := zI H
    go_wp2
    go_ret
    exact ⟨zs, zd⟩
   replace c7 := Bool.eq_false_iff.mpr c7
   subst c7
   rw [if_neg zFT] at H
   replace H := zP H
   obtain ⟨⟨t498, t499⟩, A8, H⟩ := H
   dsimp only at H
   replace H := zI2 H
   rcases H with ⟨c9, H⟩ | ⟨c9, H⟩
   case inl =>
    have c9b0 : decide ((wrap64 (a1 - t499)) ≤ t499) = true := zE c9
    clear c9
    obtain rfl := zI H
    go_wp2_with (first | ((with_reducible refine gate_callee (f := 100) rfl ?_); refine goesL_ (some 21) rfl rfl Try.func100 ze rfl #[.int .i64 a0, .int .i64 a1] rfl zg ?_; (with_reducible refine (impl_down.calls a0 a1 t498 t499 _ A8.out).mono ?_); rintro e w' ⟨rfl, ⟨nd, rfl⟩⟩; refine ⟨_, rfl, ?_⟩))
    go_ret
    exact ⟨zs, zd⟩
   have c9b0 : decide ((wrap64 (a1 - t499)) ≤ t499) = false := decide_eq_false c9
   clear c9
   obtain rfl := zI H
   go_wp2_with (first | ((with_reducible refine gate_callee (f := 100) rfl ?_); refine goesL_ (some 21) rfl rfl Try.func100 ze rfl #[.int .i64 a0, .int .i64 a1] rfl zg ?_; (with_reducible refine (impl_down.calls a0 a1 t498 t499 _ A8.out).mono ?_); rintro e w' ⟨rfl, ⟨nd, rfl⟩⟩; refine ⟨_, rfl, ?_⟩))
   go_ret
   exact ⟨zs, zd⟩
end Go.Proofs.Ytapobpkeefeajaa.PFnClean
