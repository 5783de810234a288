-- Written by a turned copy of the print (see the notes of this repo): plain functions and their walks. Lean checks it.
import Derived.Test.YtpphjbogijjnpaaPFnParitiesx0
import Derived.Test.YtpphjbogijjnpaaPFnParitiesx1
import Derived.Test.YtpphjbogijjnpaaPFnParitiesx5
import Derived.Test.YtpphjbogijjnpaaPFnParitiesx6
namespace Go.Proofs.Ytpphjbogijjnpaa.PFnParities
open Go.RowKit Go.Proofs.YtpphjbogijjnpaaW.PrintWords Go.Proofs.YtpphjbogijjnpaaW.PrintLast Go.Proofs.YtpphjbogijjnpaaW.PrintMore
attribute [local go_sem] max2_int min2_int max_two min_two max_three min_three max_four min_four   -- for this text's walks alone
set_option linter.unusedVariables false
set_option linter.unusedSimpArgs false

/-! ### impl_TurnBits: function 20 -/
mutual
def impl_TurnBits.j0 : Nat → List (List Int) → List Int → Int → Bool → Option (List Int × Int × Bool)
 | 0, _, _, _, _ => none
 | k + 1, x0, x1, x2, x34 => if x34 = true then (some (([] : List Int), 0, false)) else ((slices_Clone_int_int.f x1).bind fun t179 => (impl_TurnBits.l0 k x0 x2 t179 0))
def impl_TurnBits.l0 : Nat → List (List Int) → Int → List Int → Int → Option (List Int × Int × Bool)
 | 0, _, _, _, _ => none
 | k + 1, x0, x2, x9, x10 => (impl_fails.f k x0 x9).bind fun t182 => (if (t182.length : Int) = 0 then (impl_TurnBits.j2 k x0 x2 x9 x10 t182 true) else (impl_TurnBits.j2 k x0 x2 x9 x10 t182 (x10 == x2)))
def impl_TurnBits.j2 : Nat → List (List Int) → Int → List Int → Int → List Int → Bool → Option (List Int × Int × Bool)
 | 0, _, _, _, _, _, _ => none
 | k + 1, x0, x2, x9, x10, x11, x49 => if x49 = true then (some (x9, x10, ((x11.length : Int) == 0))) else (if 0 ≤ (x9.length : Int) then (if ((x9.length : Int) : Int).toNat ≤ 35184372088832 then (impl_TurnBits.l1 k x0 x2 x9 x10 x11 (List.replicate ((x9.length : Int) : Int).toNat 0) (x11.length : Int) 0) else (none)) else (none))
def impl_TurnBits.l1 : Nat → List (List Int) → Int → List Int → Int → List Int → List Int → Int → Int → Option (List Int × Int × Bool)
 | 0, _, _, _, _, _, _, _, _ => none
 | k + 1, x0, x2, x9, x10, x11, x12, x59, x60 => if x60 < x59 then (if 0 ≤ x60 then (if x60 < (x11.length : Int) then (if 0 ≤ (rd x11 x60) then (if (rd x11 x60) < (x0.length : Int) then (impl_TurnBits.l2 k x0 x2 x9 x10 x11 x12 x59 x60 (rd_L1 x0 (rd x11 x60)) ((rd_L1 x0 (rd x11 x60)).length : Int) 0) else (none)) else (none)) else (none)) else (none)) else ((slices_Max_int_int.f x12).bind fun t193 => (impl_TurnBits.l3 k x0 x2 x9 x10 x12 t193 (x12.length : Int) 0))
def impl_TurnBits.l2 : Nat → List (List Int) → Int → List Int → Int → List Int → List Int → Int → Int → List Int → Int → Int → Option (List Int × Int × Bool)
 | 0, _, _, _, _, _, _, _, _, _, _, _ => none
 | k + 1, x0, x2, x9, x10, x11, x12, x59, x60, x67, x68, x69 => if x69 < x68 then (if 0 ≤ x69 then (if x69 < (x67.length : Int) then (if 0 ≤ (rd x67 x69) then (if (rd x67 x69) < (x12.length : Int) then (impl_TurnBits.l2 k x0 x2 x9 x10 x11 (x12.set ((rd x67 x69) : Int).toNat (wrap64 ((rd x12 (rd x67 x69)) + 1))) x59 x60 x67 x68 (wrap64 (x69 + 1))) else (none)) else (none)) else (none)) else (none)) else (impl_TurnBits.l1 k x0 x2 x9 x10 x11 x12 x59 (wrap64 (x60 + 1)))
def impl_TurnBits.l3 : Nat → List (List Int) → Int → List Int → Int → List Int → Int → Int → Int → Option (List Int × Int × Bool)
 | 0, _, _, _, _, _, _, _, _ => none
 | k + 1, x0, x2, x9, x10, x12, x17, x84, x85 => if x85 < x84 then (if 0 ≤ x85 then (if x85 < (x12.length : Int) then (if (rd x12 x85) = x17 then (if x85 < (x9.length : Int) then (impl_TurnBits.l3 k x0 x2 (x9.set (x85 : Int).toNat (Go.bits .xor .i64 (rd x9 x85) 1)) x10 x12 x17 x84 (wrap64 (x85 + 1))) else (none)) else (impl_TurnBits.l3 k x0 x2 x9 x10 x12 x17 x84 (wrap64 (x85 + 1)))) else (none)) else (none)) else (impl_TurnBits.l0 k x0 x2 x9 (wrap64 (x10 + 1)))
end
def impl_TurnBits.f (k : Nat) (l0 : List (List Int)) (l1 : List Int) (a2 : Int) : Option (List Int × Int × Bool) := (impl_BitsOk.f k l1).bind fun t176 => (if t176 = true then ((impl_ChecksOk.f k l0 (l1.length : Int)).bind fun t177 => (if t177 = true then ((impl_roundsOk.f a2).bind fun t178 => (impl_TurnBits.j0 k l0 l1 a2 (!t178))) else (impl_TurnBits.j0 k l0 l1 a2 true))) else (impl_TurnBits.j0 k l0 l1 a2 true))
theorem impl_TurnBits.mono_l : ∀ k, (∀ y0 y1 y2 y3, LeO (impl_TurnBits.j0 k y0 y1 y2 y3) (impl_TurnBits.j0 (k + 1) y0 y1 y2 y3)) ∧ (∀ y0 y1 y2 y3, LeO (impl_TurnBits.l0 k y0 y1 y2 y3) (impl_TurnBits.l0 (k + 1) y0 y1 y2 y3)) ∧ (∀ y0 y1 y2 y3 y4 y5, LeO (impl_TurnBits.j2 k y0 y1 y2 y3 y4 y5) (impl_TurnBits.j2 (k + 1) y0 y1 y2 y3 y4 y5)) ∧ (∀ y0 y1 y2 y3 y4 y5 y6 y7, LeO (impl_TurnBits.l1 k y0 y1 y2 y3 y4 y5 y6 y7) (impl_TurnBits.l1 (k + 1) y0 y1 y2 y3 y4 y5 y6 y7)) ∧ (∀ y0 y1 y2 y3 y4 y5 y6 y7 y8 y9 y10, LeO (impl_TurnBits.l2 k y0 y1 y2 y3 y4 y5 y6 y7 y8 y9 y10) (impl_TurnBits.l2 (k + 1) y0 y1 y2 y3 y4 y5 y6 y7 y8 y9 y10)) ∧ (∀ y0 y1 y2 y3 y4 y5 y6 y7, LeO (impl_TurnBits.l3 k y0 y1 y2 y3 y4 y5 y6 y7) (impl_TurnBits.l3 (k + 1) y0 y1 y2 y3 y4 y5 y6 y7))
 | 0 => ⟨fun _ _ _ _ r h => by simp [impl_TurnBits.j0] at h, fun _ _ _ _ r h => by simp [impl_TurnBits.l0] at h, fun _ _ _ _ _ _ r h => by simp [impl_TurnBits.j2] at h, fun _ _ _ _ _ _ _ _ r h => by simp [impl_TurnBits.l1] at h, fun _ _ _ _ _ _ _ _ _ _ _ r h => by simp [impl_TurnBits.l2] at h, fun _ _ _ _ _ _ _ _ r h => by simp [impl_TurnBits.l3] at h⟩
 | k + 1 => by
  obtain ⟨ih0, ih1, ih2, ih3, ih4, ih5⟩ := impl_TurnBits.mono_l k
  refine ⟨?_, ?_, ?_, ?_, ?_, ?_⟩
  ·intro y0 y1 y2 y3
   unfold impl_TurnBits.j0
   repeat' first
   | (with_reducible exact ih0 _ _ _ _)
   | (with_reducible exact ih1 _ _ _ _)
   | (with_reducible exact ih2 _ _ _ _ _ _)
   | (with_reducible exact ih3 _ _ _ _ _ _ _ _)
   | (with_reducible exact ih4 _ _ _ _ _ _ _ _ _ _ _)
   | (with_reducible exact ih5 _ _ _ _ _ _ _ _)
   | (with_reducible exact impl_BitsOk.mono _ _)
   | (with_reducible exact impl_ChecksOk.mono _ _ _)
   | (with_reducible exact impl_fails.mono _ _ _)
   | (with_reducible exact LeO.refl _)
   | (with_reducible exact LeO.none _)
   | (with_reducible refine LeO.ite ?_ ?_)
   | (with_reducible refine LeO.bind ?_ (fun _ => ?_))
  ·intro y0 y1 y2 y3
   unfold impl_TurnBits.l0
   repeat' first
   | (with_reducible exact ih0 _ _ _ _)
   | (with_reducible exact ih1 _ _ _ _)
   | (with_reducible exact ih2 _ _ _ _ _ _)
   | (with_reducible exact ih3 _ _ _ _ _ _ _ _)
   | (with_reducible exact ih4 _ _ _ _ _ _ _ _ _ _ _)
   | (with_reducible exact ih5 _ _ _ _ _ _ _ _)
   | (with_reducible exact impl_BitsOk.mono _ _)
   | (with_reducible exact impl_ChecksOk.mono _ _ _)
   | (with_reducible exact impl_fails.mono _ _ _)
   | (with_reducible exact LeO.refl _)
   | (with_reducible exact LeO.none _)
   | (with_reducible refine LeO.ite ?_ ?_)
   | (with_reducible refine LeO.bind ?_ (fun _ => ?_))
  ·intro y0 y1 y2 y3 y4 y5
   unfold impl_TurnBits.j2
   repeat' first
   | (with_reducible exact ih0 _ _ _ _)
   | (with_reducible exact ih1 _ _ _ _)
   | (with_reducible exact ih2 _ _ _ _ _ _)
   | (with_reducible exact ih3 _ _ _ _ _ _ _ _)
   | (with_reducible exact ih4 _ _ _ _ _ _ _ _ _ _ _)
   | (with_reducible exact ih5 _ _ _ _ _ _ _ _)
   | (with_reducible exact impl_BitsOk.mono _ _)
   | (with_reducible exact impl_ChecksOk.mono _ _ _)
   | (with_reducible exact impl_fails.mono _ _ _)
   | (with_reducible exact LeO.refl _)
   | (with_reducible exact LeO.none _)
   | (with_reducible refine LeO.ite ?_ ?_)
   | (with_reducible refine LeO.bind ?_ (fun _ => ?_))
  ·intro y0 y1 y2 y3 y4 y5 y6 y7
   unfold impl_TurnBits.l1
   repeat' first
   | (with_reducible exact ih0 _ _ _ _)
   | (with_reducible exact ih1 _ _ _ _)
   | (with_reducible exact ih2 _ _ _ _ _ _)
   | (with_reducible exact ih3 _ _ _ _ _ _ _ _)
   | (with_reducible exact ih4 _ _ _ _ _ _ _ _ _ _ _)
   | (with_reducible exact ih5 _ _ _ _ _ _ _ _)
   | (with_reducible exact impl_BitsOk.mono _ _)
   | (with_reducible exact impl_ChecksOk.mono _ _ _)
   | (with_reducible exact impl_fails.mono _ _ _)
   | (with_reducible exact LeO.refl _)
   | (with_reducible exact LeO.none _)
   | (with_reducible refine LeO.ite ?_ ?_)
   | (with_reducible refine LeO.bind ?_ (fun _ => ?_))
  ·intro y0 y1 y2 y3 y4 y5 y6 y7 y8 y9 y10
   unfold impl_TurnBits.l2
   repeat' first
   | (with_reducible exact ih0 _ _ _ _)
   | (with_reducible exact ih1 _ _ _ _)
   | (with_reducible exact ih2 _ _ _ _ _ _)
   | (with_reducible exact ih3 _ _ _ _ _ _ _ _)
   | (with_reducible exact ih4 _ _ _ _ _ _ _ _ _ _ _)
   | (with_reducible exact ih5 _ _ _ _ _ _ _ _)
   | (with_reducible exact impl_BitsOk.mono _ _)
   | (with_reducible exact impl_ChecksOk.mono _ _ _)
   | (with_reducible exact impl_fails.mono _ _ _)
   | (with_reducible exact LeO.refl _)
   | (with_reducible exact LeO.none _)
   | (with_reducible refine LeO.ite ?_ ?_)
   | (with_reducible refine LeO.bind ?_ (fun _ => ?_))
  ·intro y0 y1 y2 y3 y4 y5 y6 y7
   unfold impl_TurnBits.l3
   repeat' first
   | (with_reducible exact ih0 _ _ _ _)
   | (with_reducible exact ih1 _ _ _ _)
   | (with_reducible exact ih2 _ _ _ _ _ _)
   | (with_reducible exact ih3 _ _ _ _ _ _ _ _)
   | (with_reducible exact ih4 _ _ _ _ _ _ _ _ _ _ _)
   | (with_reducible exact ih5 _ _ _ _ _ _ _ _)
   | (with_reducible exact impl_BitsOk.mono _ _)
   | (with_reducible exact impl_ChecksOk.mono _ _ _)
   | (with_reducible exact impl_fails.mono _ _ _)
   | (with_reducible exact LeO.refl _)
   | (with_reducible exact LeO.none _)
   | (with_reducible refine LeO.ite ?_ ?_)
   | (with_reducible refine LeO.bind ?_ (fun _ => ?_))
theorem impl_TurnBits.mono : ∀ a0 a1 a2 k, LeO (impl_TurnBits.f k a0 a1 a2) (impl_TurnBits.f (k + 1) a0 a1 a2) := by
 intro a0 a1 a2 k
 obtain ⟨ih0, ih1, ih2, ih3, ih4, ih5⟩ := impl_TurnBits.mono_l k
 unfold impl_TurnBits.f
 repeat' first
  | (with_reducible exact ih0 _ _ _ _)
  | (with_reducible exact ih1 _ _ _ _)
  | (with_reducible exact ih2 _ _ _ _ _ _)
  | (with_reducible exact ih3 _ _ _ _ _ _ _ _)
  | (with_reducible exact ih4 _ _ _ _ _ _ _ _ _ _ _)
  | (with_reducible exact ih5 _ _ _ _ _ _ _ _)
  | (with_reducible exact impl_BitsOk.mono _ _)
  | (with_reducible exact impl_ChecksOk.mono _ _ _)
  | (with_reducible exact impl_fails.mono _ _ _)
  | (with_reducible exact LeO.refl _)
  | (with_reducible exact LeO.none _)
  | (with_reducible refine LeO.ite ?_ ?_)
  | (with_reducible refine LeO.bind ?_ (fun _ => ?_))
set_option maxHeartbeats 8000000 in
set_option maxRecDepth 100000 in
theorem impl_TurnBits.calls (k : Nat) (A0 : Option Addr) (c0 : Nat) (l0 : List (List Int)) (A1 : Option Addr) (c1 : Nat) (l1 : List Int) (a2 : Int) (r1 : List Int) (r2 : Int) (r3 : Bool) (w : World) (hr0 : Kd.C (Kd.slice 3 (Kd.int .i64)) w A0 l0.length l0) (hc0 : l0.length ≤ c0) (hr1 : Kd.C (Kd.int .i64) w A1 l1.length l1) (hc1 : l1.length ≤ c1) (h : impl_TurnBits.f k l0 l1 a2 = some (r1, r2, r3)) :
 Calls Try.prog 20 #[.slice A0 l0.length c0, .slice A1 l1.length c1, .int .i64 a2] w fun e w' => ∃ v0_ : Value, e = .returned (.tuple #[v0_, .int .i64 r2, .bool r3]) ∧ Kd.R (Kd.int .i64) 3 w' w.heap.size (fun _ => True) v0_ r1 ∧ Below w.heap.size w w' := by
 have HR0 := zM hr0
 have HC0 := zM hc0
 clear hr0 hc0
 have HR1 := zM hr1
 have HC1 := zM hc1
 clear hr1 hc1
 have HB := zM (Below.refl w.heap.size w)
 have H : ((impl_BitsOk.f k l1).bind fun t176 => (if t176 = true then ((impl_ChecksOk.f k l0 (l1.length : Int)).bind fun t177 => (if t177 = true then ((impl_roundsOk.f a2).bind fun t178 => (impl_TurnBits.j0 k l0 l1 a2 (!t178))) else (impl_TurnBits.j0 k l0 l1 a2 true))) else (impl_TurnBits.j0 k l0 l1 a2 true))) = some (r1, r2, r3) := h
 clear h
 have HC4 := zM H
 clear H
 go_enter Try.func20, Try.ntmps20
 go_upto_region 1 with (fail)
 go_cut [34] (fun v34 wc => ∃ (kq : Nat) (x34_3 : Bool), v34 = .bool x34_3 ∧ Aside0 (impl_TurnBits.j0 kq l0 l1 a2 x34_3 = some (r1, r2, r3)) ∧ Aside0 (kq ≤ k) ∧ Aside0 (Below w.heap.size w wc))
 case first =>
  have H := HC4.out
  clear HC4
  replace H := zO.mp H
  obtain ⟨t176, A50, H⟩ := H
  replace H : (if t176 = true then ((impl_ChecksOk.f k l0 (l1.length : Int)).bind fun t177 => (if t177 = true then ((impl_roundsOk.f a2).bind fun t178 => (impl_TurnBits.j0 k l0 l1 a2 (!t178))) else (impl_TurnBits.j0 k l0 l1 a2 true))) else (impl_TurnBits.j0 k l0 l1 a2 true)) = some (r1, r2, r3) := H
  have A5 := zM A50
  clear A50
  by_cases c6 : t176 = true
  case neg =>
   replace c6 := Bool.eq_false_iff.mpr c6
   subst c6
   have H1 : (impl_TurnBits.j0 k l0 l1 a2 true) = some (r1, r2, r3) := by rw [if_neg (show ¬ (false = true) by decide)] at H; exact H
   clear H
   have H := H1
   clear H1
   have H' := zM H
   clear H
   go_wp2_with (first | ((with_reducible refine gate_callee (f := 35) rfl ?_); refine goesL_ (some 21) rfl rfl Try.func35 (by kernel_rfl) rfl #[.slice A1 l1.length c1] rfl (by (try simp only [List.map_toArray, List.map_cons, List.map_nil]); first | done | rfl | (simp only [List.length_drop, List.length_take]; rfl)) ?_; (with_reducible refine (impl_BitsOk.calls k _ _ l1 false _ ?side1 ?side2 A5.out).mono ?_); (case side1 => repeat (first | exact (Kd.C_below HR1.out HB.out) | (with_reducible first | refine zCa ?_ _ | refine zCn ?_ _ | refine zCd ?_))); (case side2 => exact HC1.out); rintro e w' ⟨rfl, ⟨nd, rfl⟩⟩; refine ⟨_, rfl, ?_⟩))
   go_meet
   case rel => exact ⟨_, (true), (by first | rfl | (simp; done) | (simp [*]; done)), H', ⟨by first | omega | exact Nat.le_refl _⟩, ⟨by repeat (first | (with_reducible first | exact HB.out | apply zBa | apply zBn | apply zBd) | exact HB.out)⟩⟩
  subst c6
  have H1 : ((impl_ChecksOk.f k l0 (l1.length : Int)).bind fun t177 => (if t177 = true then ((impl_roundsOk.f a2).bind fun t178 => (impl_TurnBits.j0 k l0 l1 a2 (!t178))) else (impl_TurnBits.j0 k l0 l1 a2 true))) = some (r1, r2, r3) := by rw [if_pos rfl] at H; exact H
  clear H
  have H := H1
  clear H1
  replace H := zO.mp H
  obtain ⟨t177, A70, H⟩ := H
  replace H : (if t177 = true then ((impl_roundsOk.f a2).bind fun t178 => (impl_TurnBits.j0 k l0 l1 a2 (!t178))) else (impl_TurnBits.j0 k l0 l1 a2 true)) = some (r1, r2, r3) := H
  have A7 := zM A70
  clear A70
  by_cases c8 : t177 = true
  case neg =>
   replace c8 := Bool.eq_false_iff.mpr c8
   subst c8
   have H1 : (impl_TurnBits.j0 k l0 l1 a2 true) = some (r1, r2, r3) := by rw [if_neg (show ¬ (false = true) by decide)] at H; exact H
   clear H
   have H := H1
   clear H1
   have H' := zM H
   clear H
   go_wp2_with (first | ((with_reducible refine gate_callee (f := 35) rfl ?_); refine goesL_ (some 21) rfl rfl Try.func35 (by kernel_rfl) rfl #[.slice A1 l1.length c1] rfl (by (try simp only [List.map_toArray, List.map_cons, List.map_nil]); first | done | rfl | (simp only [List.length_drop, List.length_take]; rfl)) ?_; (with_reducible refine (impl_BitsOk.calls k _ _ l1 true _ ?side1 ?side2 A5.out).mono ?_); (case side1 => repeat (first | exact (Kd.C_below HR1.out HB.out) | (with_reducible first | refine zCa ?_ _ | refine zCn ?_ _ | refine zCd ?_))); (case side2 => exact HC1.out); rintro e w' ⟨rfl, ⟨nd, rfl⟩⟩; refine ⟨_, rfl, ?_⟩) | (go_at_call 36; (with_reducible refine (impl_ChecksOk.calls k _ _ l0 (l1.length : Int) false _ ?side1 ?side2 A7.out).mono ?_); (case side1 => repeat (first | exact (Kd.C_below HR0.out (by repeat (first | (with_reducible first | exact HB.out | apply zBa | apply zBn | apply zBd) | exact HB.out))) | (with_reducible first | refine zCa ?_ _ | refine zCn ?_ _ | refine zCd ?_))); (case side2 => exact HC0.out); rintro e w' ⟨rfl, ⟨nd, rfl⟩⟩))
   go_meet
   case rel => exact ⟨_, (true), (by first | rfl | (simp; done) | (simp [*]; done)), H', ⟨by first | omega | exact Nat.le_refl _⟩, ⟨by repeat (first | (with_reducible first | exact HB.out | apply zBa | apply zBn | apply zBd) | exact HB.out)⟩⟩
  subst c8
  have H1 : ((impl_roundsOk.f a2).bind fun t178 => (impl_TurnBits.j0 k l0 l1 a2 (!t178))) = some (r1, r2, r3) := by rw [if_pos rfl] at H; exact H
  clear H
  have H := H1
  clear H1
  replace H := zO.mp H
  obtain ⟨t178, A90, H⟩ := H
  replace H : (impl_TurnBits.j0 k l0 l1 a2 (!t178)) = some (r1, r2, r3) := H
  have A9 := zM A90
  clear A90
  have H' := zM H
  clear H
  go_wp2_with (first | ((with_reducible refine gate_callee (f := 35) rfl ?_); refine goesL_ (some 21) rfl rfl Try.func35 (by kernel_rfl) rfl #[.slice A1 l1.length c1] rfl (by (try simp only [List.map_toArray, List.map_cons, List.map_nil]); first | done | rfl | (simp only [List.length_drop, List.length_take]; rfl)) ?_; (with_reducible refine (impl_BitsOk.calls k _ _ l1 true _ ?side1 ?side2 A5.out).mono ?_); (case side1 => repeat (first | exact (Kd.C_below HR1.out HB.out) | (with_reducible first | refine zCa ?_ _ | refine zCn ?_ _ | refine zCd ?_))); (case side2 => exact HC1.out); rintro e w' ⟨rfl, ⟨nd, rfl⟩⟩; refine ⟨_, rfl, ?_⟩) | (go_at_call 36; (with_reducible refine (impl_ChecksOk.calls k _ _ l0 (l1.length : Int) true _ ?side1 ?side2 A7.out).mono ?_); (case side1 => repeat (first | exact (Kd.C_below HR0.out (by repeat (first | (with_reducible first | exact HB.out | apply zBa | apply zBn | apply zBd) | exact HB.out))) | (with_reducible first | refine zCa ?_ _ | refine zCn ?_ _ | refine zCd ?_))); (case side2 => exact HC0.out); rintro e w' ⟨rfl, ⟨nd, rfl⟩⟩) | (go_at_call 39; (with_reducible refine (impl_roundsOk.calls a2 t178 _ A9.out).mono ?_); rintro e w' ⟨rfl, ⟨nd, rfl⟩⟩))
  go_meet
  case rel => exact ⟨_, (!t178), (by first | rfl | (simp; done) | (simp [*]; done)), H', ⟨by first | omega | exact Nat.le_refl _⟩, ⟨by repeat (first | (with_reducible first | exact HB.out | apply zBa | apply zBn | apply zBd) | exact HB.out)⟩⟩
 case rest =>
  clear HC4
  try clear c1
  try clear c2
  try clear p2
  try clear c3
  try clear c6
  try clear c8
  obtain ⟨kq, x34_3, rfl, HA, HJ3, HB⟩ := hcut
  cases kq with
  | zero => exact absurd HA.out (by simp [impl_TurnBits.j0])
  | succ kj3 =>
   have H := HA.out
   clear HA
   simp only [impl_TurnBits.j0] at H
   by_cases c10 : x34_3 = true
   case pos =>
    subst c10
    have H1 : (some (([] : List Int), 0, false)) = some (r1, r2, r3) := by rw [if_pos rfl] at H; exact H
    clear H
    have H := H1
    clear H1
    simp only [Option.some.injEq, Prod.mk.injEq] at H
    obtain ⟨rfl, rfl, rfl⟩ := H
    go_wp2
    go_ret3
    exact ⟨_, by first | rfl | (simp [errW_none, errW_some] <;> rfl) | (simp [*, errW_none, errW_some] <;> rfl), by first | exact Kd.R_nil _ _ _ _ _ | exact Kd.N_nil _ _ _ _ _ | exact Kd.V_nil _ _ _ _ _ | exact Kd.Q_nil _ _ _ _ _ | exact Kd.S_nil _ _ _ _ _, by repeat (first | (with_reducible first | exact HB.out | apply zBa | apply zBn | apply zBd) | exact HB.out)⟩
   replace c10 := Bool.eq_false_iff.mpr c10
   subst c10
   have H1 : ((slices_Clone_int_int.f l1).bind fun t179 => (impl_TurnBits.l0 kj3 l0 a2 t179 0)) = some (r1, r2, r3) := by rw [if_neg (show ¬ (false = true) by decide)] at H; exact H
   clear H
   have H := H1
   clear H1
   replace H := zO.mp H
   obtain ⟨t179, A110, H⟩ := H
   replace H : (impl_TurnBits.l0 kj3 l0 a2 t179 0) = some (r1, r2, r3) := H
   have A11 := zM A110
   clear A110
   have H' := zM H
   clear H
   go_wp2_with (first | ((with_reducible refine gate_callee (f := 40) rfl ?_); refine goesL_ (some 36) rfl rfl Try.func40 (by kernel_rfl) rfl #[.slice A1 l1.length c1] rfl (by (try simp only [List.map_toArray, List.map_cons, List.map_nil]); first | done | rfl | (simp only [List.length_drop, List.length_take]; rfl)) ?_; (with_reducible refine (slices_Clone_int_int.calls _ _ l1 t179 _ ?side1 ?side2 A11.out).mono ?_); (case side1 => repeat (first | exact (Kd.C_below HR1.out HB.out) | (with_reducible first | refine zCa ?_ _ | refine zCn ?_ _ | refine zCd ?_))); (case side2 => exact HC1.out); rintro e w12 ⟨v180, rfl, ho0, hb⟩; refine ⟨_, rfl, ?_⟩; have n0_ := zM (Kd.R_lower ho0 (below_size (by repeat (first | (with_reducible first | exact HB.out | apply zBa | apply zBn | apply zBd) | exact HB.out)))); have n1_ := zM (below_step (by repeat (first | (with_reducible first | exact HB.out | apply zBa | apply zBn | apply zBd) | exact HB.out)) hb); clear HB; have HO181 := n0_; have HB := n1_; clear n0_ n1_; (try clear hb); (try clear hb2); (try clear hk); (try clear hi); (try clear ho0)))
   (try simp only [Act.put, zS1, zS2, zS3])
   go_loopg [10] kj3 (fun kq v10 w' => ∃ (x9_2 : List Int) (x10_2 : Int), v10 = .int .i64 x10_2 ∧ Aside0 (impl_TurnBits.l0 kq l0 a2 x9_2 x10_2 = some (r1, r2, r3)) ∧ Aside0 (kq ≤ kj3) ∧ Aside0 (Kd.R (Kd.int .i64) 3 w' w.heap.size (fun _ => True) v180 x9_2) ∧ Aside0 (Below w.heap.size w w'))
   case atStart => exact ⟨(t179), (0), (by first | rfl | (simp; done) | (simp [*]; done)), H', ⟨Nat.le_refl _⟩, ⟨by (with_reducible repeat (first | apply zRa | apply zRn | apply zRd)); first | exact HO181.out | (subst_vars; exact HO181.out)⟩, ⟨by repeat (first | (with_reducible first | exact HB.out | apply zBa | apply zBn | apply zBd) | exact HB.out)⟩⟩
   case round =>
    clear H'
    try clear c1
    try clear c2
    try clear p2
    try clear c3
    try clear c4
    try clear c6
    try clear c8
    try clear c10
    try clear p2
    obtain ⟨x9_2, x10_2, rfl, HA, HK2, HO_9, HB⟩ := hrel
    cases gk with
    | zero => exact absurd HA.out (by simp [impl_TurnBits.l0])
    | succ k2 =>
     have H := HA.out
     clear HA
     simp only [impl_TurnBits.l0] at H
     replace H := zO.mp H
     obtain ⟨t182, A130, H⟩ := H
     replace H : (if (t182.length : Int) = 0 then (impl_TurnBits.j2 k2 l0 a2 x9_2 x10_2 t182 true) else (impl_TurnBits.j2 k2 l0 a2 x9_2 x10_2 t182 (x10_2 == a2))) = some (r1, r2, r3) := H
     have A13 := zM A130
     clear A130
     have HC14 := zM H
     clear H
     obtain ⟨Ao15, co15, eo15⟩ := Kd.R_slice HO_9.out
     subst eo15
     go_upto_region 7 with (first | ((with_reducible refine gate_callee (f := 37) rfl ?_); refine goesL_ (some 41) rfl rfl Try.func37 (by kernel_rfl) rfl #[.slice A0 l0.length c0, .slice Ao15 x9_2.length co15] rfl (by (try simp only [List.map_toArray, List.map_cons, List.map_nil]); first | done | rfl | (simp only [List.length_drop, List.length_take]; rfl)) ?_; (with_reducible refine (impl_fails.calls k2 _ _ l0 _ _ x9_2 t182 _ ?side1 ?side2 ?side3 ?side4 A13.out).mono ?_); (case side1 => repeat (first | exact (Kd.C_below HR0.out HB.out) | (with_reducible first | refine zCa ?_ _ | refine zCn ?_ _ | refine zCd ?_))); (case side2 => exact HC0.out); (case side3 => repeat (first | exact (Kd.R_reads' HO_9.out).2.2 | (with_reducible first | refine zCa ?_ _ | refine zCn ?_ _ | refine zCd ?_))); (case side4 => exact (Kd.R_reads' HO_9.out).2.1); rintro e w16 ⟨v183, rfl, ho0, hb⟩; refine ⟨_, rfl, ?_⟩; have n0_ := zM (Kd.R_elder' (by (with_reducible repeat (first | apply zRa | apply zRn | apply zRd)); first | exact HO_9.out | (subst_vars; exact HO_9.out)) (Kd.R_base ho0) hb); have n1_ := zM (Kd.R_lower (Kd.R_new' ho0 (Kd.R_lt (by (with_reducible repeat (first | apply zRa | apply zRn | apply zRd)); first | exact HO_9.out | (subst_vars; exact HO_9.out)))) (below_size (by repeat (first | (with_reducible first | exact HB.out | apply zBa | apply zBn | apply zBd) | exact HB.out)))); have n2_ := zM (below_step (by repeat (first | (with_reducible first | exact HB.out | apply zBa | apply zBn | apply zBd) | exact HB.out)) hb); clear HO_9; clear HB; have HO_9 := n0_; have HO184 := n1_; have HB := n2_; clear n0_ n1_ n2_; (try clear hb); (try clear hb2); (try clear hk); (try clear hi); (try clear ho0)))
     (try simp only [Act.put, zS1, zS2, zS3])
     go_cut [49] (fun v49 wc => ∃ (kq : Nat) (x49_13 : Bool), v49 = .bool x49_13 ∧ Aside0 (impl_TurnBits.j2 kq l0 a2 x9_2 x10_2 t182 x49_13 = some (r1, r2, r3)) ∧ Aside0 (kq ≤ k2) ∧ Aside0 (Kd.R (Kd.int .i64) 3 wc w.heap.size (fun k_ => some k_ ≠ (v183 : Value).ownBlock) (.slice Ao15 x9_2.length co15) x9_2) ∧ Aside0 (Kd.R (Kd.int .i64) 3 wc w.heap.size (fun k_ => some k_ ≠ ((.slice Ao15 x9_2.length co15) : Value).ownBlock) v183 t182) ∧ Aside0 (Below w.heap.size w wc))
     case first =>
      have H := HC14.out
      clear HC14
      by_cases c17 : (t182.length : Int) = 0
      case pos =>
       rw [if_pos c17] at H
       have c17b0 : ((t182.length : Int) == 0) = true := beq_iff_eq.mpr c17
       have c17b1 : ((t182.length : Int) != 0) = false := bne_eq_false_iff_eq.mpr c17
       clear c17
       (first | rw [c17b0] | (simp only [i64_w, i32_w]; rw [c17b0]) | skip)
       have H' := zM H
       clear H
       obtain ⟨Ao18, co18, eo18⟩ := Kd.R_slice HO184.out
       subst eo18
       go_wp2
       go_meet
       case rel => exact ⟨_, (true), (by first | rfl | (simp; done) | (simp [*]; done)), H', ⟨by have := HJ3.out; have := HK2.out; first | omega | exact Nat.le_refl _⟩, ⟨by (with_reducible repeat (first | apply zRa | apply zRn | apply zRd)); first | exact Kd.R_mono HO_9.out (fun _ hk => hk.2) | (subst_vars; exact Kd.R_mono HO_9.out (fun _ hk => hk.2))⟩, ⟨by (with_reducible repeat (first | apply zRa | apply zRn | apply zRd)); first | exact Kd.R_mono HO184.out (fun _ hk => hk.2) | (subst_vars; exact Kd.R_mono HO184.out (fun _ hk => hk.2))⟩, ⟨by repeat (first | (with_reducible first | exact HB.out | apply zBa | apply zBn | apply zBd) | exact HB.out)⟩⟩
      rw [if_neg c17] at H
      have c17b0 : ((t182.length : Int) == 0) = false := beq_eq_false_iff_ne.mpr c17
      have c17b1 : ((t182.length : Int) != 0) = true := bne_iff_ne.mpr c17
      have c17b2 : ¬ (t182 = []) := fun h_ => c17 (by rw [h_]; rfl)
      (first | rw [c17b0] | (simp only [i64_w, i32_w]; rw [c17b0]) | skip)
      have H' := zM H
      clear H
      obtain ⟨Ao19, co19, eo19⟩ := Kd.R_slice HO184.out
      subst eo19
      go_wp2
      go_meet
      case rel => exact ⟨_, ((x10_2 == a2)), (by first | rfl | (simp; done) | (simp [*]; done)), H', ⟨by have := HJ3.out; have := HK2.out; first | omega | exact Nat.le_refl _⟩, ⟨by (with_reducible repeat (first | apply zRa | apply zRn | apply zRd)); first | exact Kd.R_mono HO_9.out (fun _ hk => hk.2) | (subst_vars; exact Kd.R_mono HO_9.out (fun _ hk => hk.2))⟩, ⟨by (with_reducible repeat (first | apply zRa | apply zRn | apply zRd)); first | exact Kd.R_mono HO184.out (fun _ hk => hk.2) | (subst_vars; exact Kd.R_mono HO184.out (fun _ hk => hk.2))⟩, ⟨by repeat (first | (with_reducible first | exact HB.out | apply zBa | apply zBn | apply zBd) | exact HB.out)⟩⟩
     case rest =>
      clear HC14
      try clear c1
      try clear c2
      try clear p2
      try clear c3
      try clear c4
      try clear c6
      try clear c8
      try clear c10
      try clear c17
      try clear c17b0
      try clear c17b1
      try clear c17b2
      try clear p2
      obtain ⟨kq, x49_13, rfl, HA, HJ13, HO_9, HO_11, HB⟩ := hcut
      cases kq with
      | zero => exact absurd HA.out (by simp [impl_TurnBits.j2])
      | succ kj13 =>
       have H := HA.out
       clear HA
       simp only [impl_TurnBits.j2] at H
       by_cases c20 : x49_13 = true
       case pos =>
        subst c20
        have H1 : (some (x9_2, x10_2, ((t182.length : Int) == 0))) = some (r1, r2, r3) := by rw [if_pos rfl] at H; exact H
        clear H
        have H := H1
        clear H1
        simp only [Option.some.injEq, Prod.mk.injEq] at H
        obtain ⟨rfl, rfl, rfl⟩ := H
        obtain ⟨Ao21, co21, eo21⟩ := Kd.R_slice HO_11.out
        subst eo21
        go_wp2
        go_ret3
        exact ⟨_, by first | rfl | (simp [errW_none, errW_some] <;> rfl) | (simp [*, errW_none, errW_some] <;> rfl), by (with_reducible repeat (first | apply zRa | apply zRn | apply zRd)); first | exact Kd.R_mono HO_9.out (fun _ hk => trivial) | (subst_vars; exact Kd.R_mono HO_9.out (fun _ hk => trivial)), by repeat (first | (with_reducible first | exact HB.out | apply zBa | apply zBn | apply zBd) | exact HB.out)⟩
       replace c20 := Bool.eq_false_iff.mpr c20
       subst c20
       have H1 : (if 0 ≤ (x9_2.length : Int) then (if ((x9_2.length : Int) : Int).toNat ≤ 35184372088832 then (impl_TurnBits.l1 kj13 l0 a2 x9_2 x10_2 t182 (List.replicate ((x9_2.length : Int) : Int).toNat 0) (t182.length : Int) 0) else (none)) else (none)) = some (r1, r2, r3) := by rw [if_neg (show ¬ (false = true) by decide)] at H; exact H
       clear H
       have H := H1
       clear H1
       by_cases c22 : 0 ≤ (x9_2.length : Int)
       case neg =>
        rw [if_neg c22] at H
        exact absurd H (by simp)
       rw [if_pos c22] at H
       have c22b0 := eq_true c22
       have c22b1 : decide (0 ≤ (x9_2.length : Int)) = true := zE c22
       clear c22
       by_cases c23 : ((x9_2.length : Int) : Int).toNat ≤ 35184372088832
       case neg =>
        rw [if_neg c23] at H
        exact absurd H (by simp)
       rw [if_pos c23] at H
       have c23b0 := eq_true c23
       have c23b1 : decide (((x9_2.length : Int) : Int).toNat ≤ 35184372088832) = true := zE c23
       clear c23
       obtain ⟨y185, hy185⟩ : ∃ y_ : List Int, y_ = (List.replicate ((x9_2.length : Int) : Int).toNat 0) := ⟨_, rfl⟩
       replace H : (impl_TurnBits.l1 kj13 l0 a2 x9_2 x10_2 t182 y185 (t182.length : Int) 0) = some (r1, r2, r3) := by first | (rw [hy185]; with_reducible exact H) | (have H2_ := (Option.bind_some _ _).symm.trans H; rw [hy185]; with_reducible exact H2_) | (have H2_ := (Option.bind_some _ _).symm.trans H; with_reducible exact H2_) | with_reducible exact H | (rw [hy185]; exact H) | exact H
       have Ny185 := zM hy185
       clear hy185
       have H' := zM H
       clear H
       go_wp2_with (first | ((with_reducible refine gate_dst (N := 57) rfl ?_); (try (refine gate_guard (by rfl) ?_; dsimp only)); refine Kd.R_make (Kd.int .i64) _ 3 rfl (N := 57) rfl 23 _ _ rfl (x9_2.length : Int) rfl rfl Try.underlying23 (.int .i64 0) 8 info3 rfl (by decide) (by omega) 0 (ok := fun _ => True) (okp := fun _ => True) rfl (fun _ hk => hk) trivial (zT (by assumption)) (Nat.le_trans (Nat.mul_le_mul_right _ (zT (by assumption) : (x9_2.length : Int).toNat ≤ 35184372088832)) (by omega)) (Below.refl _ _) (Nat.le_refl _) ?_; intro v186 w24 ho25 hb hg_ hnew_; clear hg_ hnew_; (first | rw [← Ny185.out] at ho25 | (simp only [Int.reduceToNat] at ho25; rw [← Ny185.out] at ho25)); have n0_ := zM (Kd.R_elder' (by (with_reducible repeat (first | apply zRa | apply zRn | apply zRd)); first | exact HO_9.out | (subst_vars; exact HO_9.out)) (Kd.R_base ho25) hb); have n1_ := zM (Kd.R_elder' (by (with_reducible repeat (first | apply zRa | apply zRn | apply zRd)); first | exact HO_11.out | (subst_vars; exact HO_11.out)) (Kd.R_base ho25) hb); have n2_ := zM (Kd.R_lower (Kd.R_new' (Kd.R_new' ho25 (Kd.R_lt (by (with_reducible repeat (first | apply zRa | apply zRn | apply zRd)); first | exact HO_9.out | (subst_vars; exact HO_9.out)))) (Kd.R_lt (by (with_reducible repeat (first | apply zRa | apply zRn | apply zRd)); first | exact HO_11.out | (subst_vars; exact HO_11.out)))) (below_size (by repeat (first | (with_reducible first | exact HB.out | apply zBa | apply zBn | apply zBd) | exact HB.out)))); have n3_ := zM (below_step (by repeat (first | (with_reducible first | exact HB.out | apply zBa | apply zBn | apply zBd) | exact HB.out)) hb); clear HO_9; clear HO_11; clear HB; have HO_9 := n0_; have HO_11 := n1_; have HO187 := n2_; have HB := n3_; clear n0_ n1_ n2_ n3_; clear hb ho25; obtain ⟨Ao26, co26, eo26⟩ := Kd.R_slice HO_11.out; subst eo26))
       (try simp only [Act.put, zS1, zS2, zS3])
       go_loopg [60] kj13 (fun kq v60 w' => ∃ (x12_4 : List Int) (x60_4 : Int), v60 = .int .i64 x60_4 ∧ Aside0 (impl_TurnBits.l1 kq l0 a2 x9_2 x10_2 t182 x12_4 (t182.length : Int) x60_4 = some (r1, r2, r3)) ∧ Aside0 (kq ≤ kj13) ∧ Aside0 (Kd.R (Kd.int .i64) 3 w' w.heap.size (fun k_ => some k_ ≠ ((.slice Ao26 t182.length co26) : Value).ownBlock ∧ some k_ ≠ (v186 : Value).ownBlock) (.slice Ao15 x9_2.length co15) x9_2) ∧ Aside0 (Kd.R (Kd.int .i64) 3 w' w.heap.size (fun k_ => some k_ ≠ ((.slice Ao15 x9_2.length co15) : Value).ownBlock ∧ some k_ ≠ (v186 : Value).ownBlock) (.slice Ao26 t182.length co26) t182) ∧ Aside0 (Kd.R (Kd.int .i64) 3 w' w.heap.size (fun k_ => some k_ ≠ ((.slice Ao15 x9_2.length co15) : Value).ownBlock ∧ some k_ ≠ ((.slice Ao26 t182.length co26) : Value).ownBlock) v186 x12_4) ∧ Aside0 (Below w.heap.size w w'))
       case atStart => exact ⟨(y185), (0), (by first | rfl | (simp; done) | (simp [*]; done)), H', ⟨Nat.le_refl _⟩, ⟨by (with_reducible repeat (first | apply zRa | apply zRn | apply zRd)); first | exact HO_9.out | (subst_vars; exact HO_9.out)⟩, ⟨by (with_reducible repeat (first | apply zRa | apply zRn | apply zRd)); first | exact HO_11.out | (subst_vars; exact HO_11.out)⟩, ⟨by (with_reducible repeat (first | apply zRa | apply zRn | apply zRd)); first | exact Kd.R_mono HO187.out (fun _ hk => ⟨hk.1.2, hk.2⟩) | (subst_vars; exact Kd.R_mono HO187.out (fun _ hk => ⟨hk.1.2, hk.2⟩))⟩, ⟨by repeat (first | (with_reducible first | exact HB.out | apply zBa | apply zBn | apply zBd) | exact HB.out)⟩⟩
       case round =>
        clear H'
        try clear c1
        try clear c2
        try clear p2
        try clear c3
        try clear c4
        try clear c6
        try clear c8
        try clear c10
        try clear c17
        try clear c17b0
        try clear c17b1
        try clear c17b2
        try clear c20
        try clear c22
        try clear c22b0
        try clear c22b1
        try clear c23
        try clear c23b0
        try clear c23b1
        try clear p2
        obtain ⟨x12_4, x60_4, rfl, HA, HK4, HO_9, HO_11, HO_12, HB⟩ := hrel
        cases gk with
        | zero => exact absurd HA.out (by simp [impl_TurnBits.l1])
        | succ k4 =>
         have H := HA.out
         clear HA
         simp only [impl_TurnBits.l1] at H
         by_cases c27 : x60_4 < (t182.length : Int)
         case neg =>
          rw [if_neg c27] at H
          have c27b0 : decide (x60_4 < (t182.length : Int)) = false := decide_eq_false c27
          clear c27
          replace H := zO.mp H
          obtain ⟨t193, A410, H⟩ := H
          replace H : (impl_TurnBits.l3 k4 l0 a2 x9_2 x10_2 x12_4 t193 (x12_4.length : Int) 0) = some (r1, r2, r3) := H
          have A41 := zM A410
          clear A410
          have H' := zM H
          clear H
          obtain ⟨Ao42, co42, eo42⟩ := Kd.R_slice HO_12.out
          subst eo42
          go_wp2_with (first | ((with_reducible refine gate_callee (f := 41) rfl ?_); refine goesL_ (some 82) rfl rfl Try.func41 (by kernel_rfl) rfl #[.slice Ao42 x12_4.length co42] rfl (by (try simp only [List.map_toArray, List.map_cons, List.map_nil]); first | done | rfl | (simp only [List.length_drop, List.length_take]; rfl)) ?_; (with_reducible refine (slices_Max_int_int.calls _ _ x12_4 t193 _ ?side1 ?side2 A41.out).mono ?_); (case side1 => repeat (first | exact (Kd.R_reads' HO_12.out).2.2 | (with_reducible first | refine zCa ?_ _ | refine zCn ?_ _ | refine zCd ?_))); (case side2 => exact (Kd.R_reads' HO_12.out).2.1); rintro e w' ⟨rfl, ⟨nd, rfl⟩⟩; refine ⟨_, rfl, ?_⟩))
          (try simp only [Act.put, zS1, zS2, zS3])
          go_loopg [85] k4 (fun kq v85 w' => ∃ (x9_5 : List Int) (x85_5 : Int), v85 = .int .i64 x85_5 ∧ Aside0 (impl_TurnBits.l3 kq l0 a2 x9_5 x10_2 x12_4 t193 (x12_4.length : Int) x85_5 = some (r1, r2, r3)) ∧ Aside0 (kq ≤ k4) ∧ Aside0 (Kd.R (Kd.int .i64) 3 w' w.heap.size (fun k_ => some k_ ≠ ((.slice Ao42 x12_4.length co42) : Value).ownBlock) (.slice Ao15 x9_2.length co15) x9_5) ∧ Aside0 (Kd.R (Kd.int .i64) 3 w' w.heap.size (fun k_ => some k_ ≠ ((.slice Ao15 x9_2.length co15) : Value).ownBlock) (.slice Ao42 x12_4.length co42) x12_4) ∧ Aside0 (Below w.heap.size w w'))
          case atStart => exact ⟨(x9_2), (0), (by first | rfl | (simp; done) | (simp [*]; done)), H', ⟨Nat.le_refl _⟩, ⟨by (with_reducible repeat (first | apply zRa | apply zRn | apply zRd)); first | exact Kd.R_mono HO_9.out (fun _ hk => hk.2) | (subst_vars; exact Kd.R_mono HO_9.out (fun _ hk => hk.2))⟩, ⟨by (with_reducible repeat (first | apply zRa | apply zRn | apply zRd)); first | exact Kd.R_mono HO_12.out (fun _ hk => hk.1) | (subst_vars; exact Kd.R_mono HO_12.out (fun _ hk => hk.1))⟩, ⟨by repeat (first | (with_reducible first | exact HB.out | apply zBa | apply zBn | apply zBd) | exact HB.out)⟩⟩
          case round =>
           clear H'
           try clear c1
           try clear p1
           try clear q1
           try clear hx1
           try clear c2
           try clear p2
           try clear c3
           try clear p3
           try clear q3
           try clear hx3
           try clear hf3
           try clear c4
           try clear c6
           try clear p6
           try clear c8
           try clear c10
           try clear c17
           try clear c17b0
           try clear c17b1
           try clear c17b2
           try clear c18
           try clear p18
           try clear q18
           try clear hx18
           try clear p19
           try clear q19
           try clear hx19
           try clear c20
           try clear c22
           try clear c22b0
           try clear c22b1
           try clear c23
           try clear c23b0
           try clear c23b1
           try clear c27
           try clear c27b0
           try clear c28
           try clear c28b0
           try clear c29
           try clear c29b0
           try clear c30
           try clear c30b0
           try clear c31
           try clear c31b0
           try clear c32
           try clear c32b0
           try clear c33
           try clear c33b0
           try clear c34
           try clear c34b0
           try clear c35
           try clear c35b0
           try clear c36
           try clear c36b0
           try clear c37
           try clear p37
           try clear q37
           try clear hx37
           try clear hf37
           try clear c40
           try clear c41
           try clear hx188_0
           try clear hx189_0
           try clear hx190_0
           try clear hx191_0
           try clear hx37_0
           try clear p1
           try clear p18
           try clear p188
           try clear p189
           try clear p190
           try clear p191
           try clear p2
           try clear p37
           try clear q1
           try clear q18
           try clear q188
           try clear q189
           try clear q190
           try clear q191
           try clear q37
           obtain ⟨x9_5, x85_5, rfl, HA, HK5, HO_9, HO_12, HB⟩ := hrel
           have hl9_5 := (Kd.R_reads' HO_9.out).1
           rw [hl9_5] at HO_9
           (try simp only [hl9_5])
           (try simp only [hl9_5] at HO_12)
           cases gk with
           | zero => exact absurd HA.out (by simp [impl_TurnBits.l3])
           | succ k5 =>
            have H := HA.out
            clear HA
            simp only [impl_TurnBits.l3] at H
            by_cases c43 : x85_5 < (x12_4.length : Int)
            case neg =>
             rw [if_neg c43] at H
             have c43b0 : decide (x85_5 < (x12_4.length : Int)) = false := decide_eq_false c43
             (try (have c43w_hl9_5 := c43b0; simp only [hl9_5] at c43w_hl9_5))
             clear c43
             have H' := zM H
             clear H
             go_wp2
             (try simp only [← hl9_5])
             go_roundg k5
             case measure => have := HJ3.out; have := HK2.out; have := HJ13.out; have := HK4.out; have := HK5.out; omega
             case rel => exact ⟨(x9_5), (wrap64 (x10_2 + 1)), (by first | rfl | (simp; done) | (simp [*]; done)), H', ⟨by have := HJ3.out; have := HK2.out; have := HJ13.out; have := HK4.out; have := HK5.out; omega⟩, ⟨by (try simp only [hl9_5]); (with_reducible repeat (first | apply zRa | apply zRn | apply zRd)); first | exact Kd.R_mono HO_9.out (fun _ hk => trivial) | (subst_vars; exact Kd.R_mono HO_9.out (fun _ hk => trivial))⟩, ⟨by repeat (first | (with_reducible first | exact HB.out | apply zBa | apply zBn | apply zBd) | exact HB.out)⟩⟩
            rw [if_pos c43] at H
            have c43b0 : decide (x85_5 < (x12_4.length : Int)) = true := zE c43
            (try (have c43w_hl9_5 := c43b0; simp only [hl9_5] at c43w_hl9_5))
            clear c43
            by_cases c44 : 0 ≤ x85_5
            case neg =>
             rw [if_neg c44] at H
             exact absurd H (by simp)
            rw [if_pos c44] at H
            have c44b0 : decide (0 ≤ x85_5) = true := zE c44
            (try (have c44w_hl9_5 := c44b0; simp only [hl9_5] at c44w_hl9_5))
            clear c44
            by_cases c45 : x85_5 < (x12_4.length : Int)
            case neg =>
             rw [if_neg c45] at H
             exact absurd H (by simp)
            rw [if_pos c45] at H
            have c45b0 : decide (x85_5 < (x12_4.length : Int)) = true := zE c45
            (try (have c45w_hl9_5 := c45b0; simp only [hl9_5] at c45w_hl9_5))
            clear c45
            by_cases c46 : (rd x12_4 x85_5) = t193
            case neg =>
             rw [if_neg c46] at H
             have c46b0 : ((rd x12_4 x85_5) == t193) = false := beq_eq_false_iff_ne.mpr c46
             have c46b1 : ((rd x12_4 x85_5) != t193) = true := bne_iff_ne.mpr c46
             (try (have c46w_hl9_5 := c46b0; simp only [hl9_5] at c46w_hl9_5))
             have H' := zM H
             clear H
             have p194 : 0 ≤ (x85_5 : Int) := zT (by assumption)
             have q194 : x85_5 < (x12_4.length : Int) := zT (by assumption)
             obtain ⟨ad194, e194, hx194_0⟩ := Kd.at_int (Kd.R_reads' HO_12.out).2.2 x85_5 p194 q194
             cases e194
             replace p194 := eq_true p194
             replace q194 := eq_true q194
             go_wp2
             (try simp only [← hl9_5])
             go_roundg k5
             case measure => have := HJ3.out; have := HK2.out; have := HJ13.out; have := HK4.out; have := HK5.out; omega
             case rel => exact ⟨(x9_5), (wrap64 (x85_5 + 1)), (by first | rfl | (simp; done) | (simp [*]; done)), H', ⟨by have := HJ3.out; have := HK2.out; have := HJ13.out; have := HK4.out; have := HK5.out; omega⟩, ⟨by (try simp only [hl9_5]); (with_reducible repeat (first | apply zRa | apply zRn | apply zRd)); first | exact HO_9.out | (subst_vars; exact HO_9.out)⟩, ⟨by (try simp only [hl9_5]); (with_reducible repeat (first | apply zRa | apply zRn | apply zRd)); first | exact HO_12.out | (subst_vars; exact HO_12.out)⟩, ⟨by repeat (first | (with_reducible first | exact HB.out | apply zBa | apply zBn | apply zBd) | exact HB.out)⟩⟩
            rw [if_pos c46] at H
            have c46b0 : ((rd x12_4 x85_5) == t193) = true := beq_iff_eq.mpr c46
            have c46b1 : ((rd x12_4 x85_5) != t193) = false := bne_eq_false_iff_eq.mpr c46
            (try (have c46w_hl9_5 := c46b0; simp only [hl9_5] at c46w_hl9_5))
            clear c46
            by_cases c47 : x85_5 < (x9_5.length : Int)
            case neg =>
             rw [if_neg c47] at H
             exact absurd H (by simp)
            rw [if_pos c47] at H
            have c47b0 : decide (x85_5 < (x9_5.length : Int)) = true := zE c47
            (try (have c47w_hl9_5 := c47b0; simp only [hl9_5] at c47w_hl9_5))
            clear c47
            obtain ⟨y196, hy196⟩ : ∃ y_ : List Int, y_ = (x9_5.set (x85_5 : Int).toNat (Go.bits .xor .i64 (rd x9_5 x85_5) 1)) := ⟨_, rfl⟩
            replace H : (impl_TurnBits.l3 k5 l0 a2 y196 x10_2 x12_4 t193 (x12_4.length : Int) (wrap64 (x85_5 + 1))) = some (r1, r2, r3) := by first | (rw [hy196]; with_reducible exact H) | (have H2_ := (Option.bind_some _ _).symm.trans H; rw [hy196]; with_reducible exact H2_) | (have H2_ := (Option.bind_some _ _).symm.trans H; with_reducible exact H2_) | with_reducible exact H | (rw [hy196]; exact H) | exact H
            have Ny196 := zM hy196
            clear hy196
            have H' := zM H
            clear H
            have p194 : 0 ≤ (x85_5 : Int) := zT (by assumption)
            have q194 : x85_5 < (x12_4.length : Int) := zT (by assumption)
            obtain ⟨ad194, e194, hx194_0⟩ := Kd.at_int (Kd.R_reads' HO_12.out).2.2 x85_5 p194 q194
            cases e194
            replace p194 := eq_true p194
            replace q194 := eq_true q194
            have p195 : 0 ≤ (x85_5 : Int) := zT (by assumption)
            have q195 : x85_5 < (x9_5.length : Int) := zT (by assumption)
            obtain ⟨ad195, e195, hx195_0⟩ := Kd.at_int (Kd.R_reads' HO_9.out).2.2 x85_5 p195 q195
            cases e195
            replace p195 := eq_true p195
            replace q195 := eq_true q195
            have p48 : 0 ≤ (x85_5 : Int) := zT (by assumption)
            have q48 : (x85_5 : Int) < ((x9_5.length : Int) : Int) := zT (by assumption)
            obtain ⟨go48, co48, eo48, gb48, gl48, cl48, HG48⟩ := Kd.R_form HO_9.out (by omega)
            (first | cases eo48 | (injection eo48 with ea_ en_ ec_; (first | subst ea_ | (injection ea_ with ea_; subst ea_)); subst ec_; clear en_))
            have GB48 := zM gb48
            have GG48 := zM HG48
            clear gb48 gl48 HG48
            (first | simp only [add_plain] at hx195_0 | skip)
            obtain ⟨hx48_0, hf48_0⟩ := Kd.R_celln 0 HO_9.out (x85_5 : Int) p48 q48
            replace p48 := eq_true p48
            replace q48 := eq_true q48
            have HP49 := Kd.R_putg HO_9.out (x85_5 : Int) (Go.bits .xor .i64 (rd x9_5 x85_5) 1)
            go_wp2_with (first | ((with_reducible refine gate_store (t := 3) (p := 98) rfl ?_); refine store_event (t := 3) (p := 98) (v := ?vo_w50) (w1 := (wr.setCell ⟨go48, (x85_5 : Int).toNat, none⟩ (.int .i64 (Go.bits .xor .i64 (rd x9_5 x85_5) 1)))) ?hg ?ho ?hn ?hr ?_; (case ho => rfl); (case hg => rfl); (case hn => rfl); (case hr => first | (go_simp; done) | (go_simp; rfl)); intro w50 hw; have hg : wr.grownBy w50 (some go48) := (by rw [hw]; exact HP49.2); have hp_ : Kd.R (Kd.int .i64) 3 w50 w.heap.size (fun k_ => some k_ ≠ (.slice (some ad194) x12_4.length co42 : Value).ownBlock) (.slice (some ⟨go48, 0, none⟩) x9_5.length co15) y196 := (by rw [hw, Ny196.out]; exact HP49.1); clear HP49; have n0_ := zM (hp_); have n1_ := zM (Kd.R_after (v := (.slice (some ⟨go48, 0, none⟩) x9_5.length co15)) (v1 := (.slice (some ⟨go48, 0, none⟩) x9_5.length co15)) (ok := (fun _ => True)) (by (with_reducible repeat (first | apply zRa | apply zRn | apply zRd)); first | exact Kd.R_mono HO_12.out (fun _ hk => ⟨trivial, hk⟩) | (subst_vars; exact Kd.R_mono HO_12.out (fun _ hk => ⟨trivial, hk⟩))) hg (.inl rfl)); have n2_ := zM ((by rw [hw]; exact zBs (HB.out) GB48.out : Below w.heap.size w w50)); clear HO_9; clear HO_12; clear HB; have HO_9 := n0_; have HO_12 := n1_; have HB := n2_; clear n0_ n1_ n2_; clear hg hw hp_))
            (try simp only [← hl9_5])
            go_roundg k5
            case measure => have := HJ3.out; have := HK2.out; have := HJ13.out; have := HK4.out; have := HK5.out; omega
            case rel => exact ⟨(y196), (wrap64 (x85_5 + 1)), (by first | rfl | (simp; done) | (simp [*]; done)), H', ⟨by have := HJ3.out; have := HK2.out; have := HJ13.out; have := HK4.out; have := HK5.out; omega⟩, ⟨by (try simp only [hl9_5]); (with_reducible repeat (first | apply zRa | apply zRn | apply zRd)); first | exact HO_9.out | (subst_vars; exact HO_9.out)⟩, ⟨by (try simp only [hl9_5]); (with_reducible repeat (first | apply zRa | apply zRn | apply zRd)); first | exact Kd.R_mono HO_12.out (fun _ hk => hk.2) | (subst_vars; exact Kd.R_mono HO_12.out (fun _ hk => hk.2))⟩, ⟨by repeat (first | (with_reducible first | exact HB.out | apply zBa | apply zBn | apply zBd) | exact HB.out)⟩⟩
         rw [if_pos c27] at H
         have c27b0 : decide (x60_4 < (t182.length : Int)) = true := zE c27
         clear c27
         by_cases c28 : 0 ≤ x60_4
         case neg =>
          rw [if_neg c28] at H
          exact absurd H (by simp)
         rw [if_pos c28] at H
         have c28b0 : decide (0 ≤ x60_4) = true := zE c28
         clear c28
         by_cases c29 : x60_4 < (t182.length : Int)
         case neg =>
          rw [if_neg c29] at H
          exact absurd H (by simp)
         rw [if_pos c29] at H
         have c29b0 : decide (x60_4 < (t182.length : Int)) = true := zE c29
         clear c29
         by_cases c30 : 0 ≤ (rd t182 x60_4)
         case neg =>
          rw [if_neg c30] at H
          exact absurd H (by simp)
         rw [if_pos c30] at H
         have c30b0 : decide (0 ≤ (rd t182 x60_4)) = true := zE c30
         clear c30
         by_cases c31 : (rd t182 x60_4) < (l0.length : Int)
         case neg =>
          rw [if_neg c31] at H
          exact absurd H (by simp)
         rw [if_pos c31] at H
         have c31b0 : decide ((rd t182 x60_4) < (l0.length : Int)) = true := zE c31
         clear c31
         have H' := zM H
         clear H
         have p188 : 0 ≤ (x60_4 : Int) := zT (by assumption)
         have q188 : x60_4 < (t182.length : Int) := zT (by assumption)
         obtain ⟨ad188, e188, hx188_0⟩ := Kd.at_int (Kd.R_reads' HO_11.out).2.2 x60_4 p188 q188
         cases e188
         replace p188 := eq_true p188
         replace q188 := eq_true q188
         have p189 : 0 ≤ ((rd t182 x60_4) : Int) := zT (by assumption)
         have q189 : (rd t182 x60_4) < (l0.length : Int) := zT (by assumption)
         obtain ⟨ad189, A189_0, c189_0, e189, hx189_0, hl189_0, hi189_0⟩ := at_L1 HR0.out (rd t182 x60_4) p189 q189
         cases e189
         replace hx189_0 := (HB.out.cell (zW w _ hx189_0)).trans hx189_0
         have HR189_0 := zM hi189_0
         have HC189_0 := zM hl189_0
         clear hi189_0 hl189_0
         replace p189 := eq_true p189
         replace q189 := eq_true q189
         go_wp2
         (try simp only [Act.put, zS1, zS2, zS3])
         go_loopg [69] k4 (fun kq v69 w' => ∃ (x12_5 : List Int) (x69_5 : Int), v69 = .int .i64 x69_5 ∧ Aside0 (impl_TurnBits.l2 kq l0 a2 x9_2 x10_2 t182 x12_5 (t182.length : Int) x60_4 (rd_L1 l0 (rd t182 x60_4)) ((rd_L1 l0 (rd t182 x60_4)).length : Int) x69_5 = some (r1, r2, r3)) ∧ Aside0 (kq ≤ k4) ∧ Aside0 (Kd.R (Kd.int .i64) 3 w' w.heap.size (fun k_ => some k_ ≠ ((.slice (some ad188) t182.length co26) : Value).ownBlock ∧ some k_ ≠ (v186 : Value).ownBlock) (.slice Ao15 x9_2.length co15) x9_2) ∧ Aside0 (Kd.R (Kd.int .i64) 3 w' w.heap.size (fun k_ => some k_ ≠ ((.slice Ao15 x9_2.length co15) : Value).ownBlock ∧ some k_ ≠ (v186 : Value).ownBlock) (.slice (some ad188) t182.length co26) t182) ∧ Aside0 (Kd.R (Kd.int .i64) 3 w' w.heap.size (fun k_ => some k_ ≠ ((.slice Ao15 x9_2.length co15) : Value).ownBlock ∧ some k_ ≠ ((.slice (some ad188) t182.length co26) : Value).ownBlock) v186 x12_5) ∧ Aside0 (Below w.heap.size w w'))
         case atStart => exact ⟨(x12_4), (0), (by first | rfl | (simp; done) | (simp [*]; done)), H', ⟨Nat.le_refl _⟩, ⟨by (with_reducible repeat (first | apply zRa | apply zRn | apply zRd)); first | exact HO_9.out | (subst_vars; exact HO_9.out)⟩, ⟨by (with_reducible repeat (first | apply zRa | apply zRn | apply zRd)); first | exact HO_11.out | (subst_vars; exact HO_11.out)⟩, ⟨by (with_reducible repeat (first | apply zRa | apply zRn | apply zRd)); first | exact HO_12.out | (subst_vars; exact HO_12.out)⟩, ⟨by repeat (first | (with_reducible first | exact HB.out | apply zBa | apply zBn | apply zBd) | exact HB.out)⟩⟩
         case round =>
          clear H'
          try clear c1
          try clear p1
          try clear q1
          try clear hx1
          try clear c2
          try clear p2
          try clear c3
          try clear c4
          try clear c6
          try clear c8
          try clear c10
          try clear c17
          try clear c17b0
          try clear c17b1
          try clear c17b2
          try clear c18
          try clear p18
          try clear q18
          try clear hx18
          try clear c20
          try clear c22
          try clear c22b0
          try clear c22b1
          try clear c23
          try clear c23b0
          try clear c23b1
          try clear c27
          try clear c27b0
          try clear c28
          try clear c28b0
          try clear c29
          try clear c29b0
          try clear c30
          try clear c30b0
          try clear c31
          try clear c31b0
          try clear hx188_0
          try clear hx189_0
          try clear p188
          try clear p189
          try clear p2
          try clear q188
          try clear q189
          obtain ⟨x12_5, x69_5, rfl, HA, HK5, HO_9, HO_11, HO_12, HB⟩ := hrel
          cases gk with
          | zero => exact absurd HA.out (by simp [impl_TurnBits.l2])
          | succ k5 =>
           have H := HA.out
           clear HA
           simp only [impl_TurnBits.l2] at H
           by_cases c32 : x69_5 < ((rd_L1 l0 (rd t182 x60_4)).length : Int)
           case neg =>
            rw [if_neg c32] at H
            have c32b0 : decide (x69_5 < ((rd_L1 l0 (rd t182 x60_4)).length : Int)) = false := decide_eq_false c32
            clear c32
            have H' := zM H
            clear H
            go_wp2
            go_roundg k5
            case measure => have := HJ3.out; have := HK2.out; have := HJ13.out; have := HK4.out; have := HK5.out; omega
            case rel => exact ⟨(x12_5), (wrap64 (x60_4 + 1)), (by first | rfl | (simp; done) | (simp [*]; done)), H', ⟨by have := HJ3.out; have := HK2.out; have := HJ13.out; have := HK4.out; have := HK5.out; omega⟩, ⟨by (with_reducible repeat (first | apply zRa | apply zRn | apply zRd)); first | exact HO_9.out | (subst_vars; exact HO_9.out)⟩, ⟨by (with_reducible repeat (first | apply zRa | apply zRn | apply zRd)); first | exact HO_11.out | (subst_vars; exact HO_11.out)⟩, ⟨by (with_reducible repeat (first | apply zRa | apply zRn | apply zRd)); first | exact HO_12.out | (subst_vars; exact HO_12.out)⟩, ⟨by repeat (first | (with_reducible first | exact HB.out | apply zBa | apply zBn | apply zBd) | exact HB.out)⟩⟩
           rw [if_pos c32] at H
           have c32b0 : decide (x69_5 < ((rd_L1 l0 (rd t182 x60_4)).length : Int)) = true := zE c32
           clear c32
           by_cases c33 : 0 ≤ x69_5
           case neg =>
            rw [if_neg c33] at H
            exact absurd H (by simp)
           rw [if_pos c33] at H
           have c33b0 : decide (0 ≤ x69_5) = true := zE c33
           clear c33
           by_cases c34 : x69_5 < ((rd_L1 l0 (rd t182 x60_4)).length : Int)
           case neg =>
            rw [if_neg c34] at H
            exact absurd H (by simp)
           rw [if_pos c34] at H
           have c34b0 : decide (x69_5 < ((rd_L1 l0 (rd t182 x60_4)).length : Int)) = true := zE c34
           clear c34
           by_cases c35 : 0 ≤ (rd (rd_L1 l0 (rd t182 x60_4)) x69_5)
           case neg =>
            rw [if_neg c35] at H
            exact absurd H (by simp)
           rw [if_pos c35] at H
           have c35b0 : decide (0 ≤ (rd (rd_L1 l0 (rd t182 x60_4)) x69_5)) = true := zE c35
           clear c35
           by_cases c36 : (rd (rd_L1 l0 (rd t182 x60_4)) x69_5) < (x12_5.length : Int)
           case neg =>
            rw [if_neg c36] at H
            exact absurd H (by simp)
           rw [if_pos c36] at H
           have c36b0 : decide ((rd (rd_L1 l0 (rd t182 x60_4)) x69_5) < (x12_5.length : Int)) = true := zE c36
           clear c36
           obtain ⟨y192, hy192⟩ : ∃ y_ : List Int, y_ = (x12_5.set ((rd (rd_L1 l0 (rd t182 x60_4)) x69_5) : Int).toNat (wrap64 ((rd x12_5 (rd (rd_L1 l0 (rd t182 x60_4)) x69_5)) + 1))) := ⟨_, rfl⟩
           replace H : (impl_TurnBits.l2 k5 l0 a2 x9_2 x10_2 t182 y192 (t182.length : Int) x60_4 (rd_L1 l0 (rd t182 x60_4)) ((rd_L1 l0 (rd t182 x60_4)).length : Int) (wrap64 (x69_5 + 1))) = some (r1, r2, r3) := by first | (rw [hy192]; with_reducible exact H) | (have H2_ := (Option.bind_some _ _).symm.trans H; rw [hy192]; with_reducible exact H2_) | (have H2_ := (Option.bind_some _ _).symm.trans H; with_reducible exact H2_) | with_reducible exact H | (rw [hy192]; exact H) | exact H
           have Ny192 := zM hy192
           clear hy192
           have H' := zM H
           clear H
           have p190 : 0 ≤ (x69_5 : Int) := zT (by assumption)
           have q190 : x69_5 < ((rd_L1 l0 (rd t182 x60_4)).length : Int) := zT (by assumption)
           obtain ⟨ad190, e190, hx190_0⟩ := Kd.at_int HR189_0.out x69_5 p190 q190
           cases e190
           replace hx190_0 := (HB.out.cell (zW w _ hx190_0)).trans hx190_0
           replace p190 := eq_true p190
           replace q190 := eq_true q190
           obtain ⟨Ao38, co38, eo38⟩ := Kd.R_slice HO_12.out
           subst eo38
           have p191 : 0 ≤ ((rd (rd_L1 l0 (rd t182 x60_4)) x69_5) : Int) := zT (by assumption)
           have q191 : (rd (rd_L1 l0 (rd t182 x60_4)) x69_5) < (x12_5.length : Int) := zT (by assumption)
           obtain ⟨ad191, e191, hx191_0⟩ := Kd.at_int (Kd.R_reads' HO_12.out).2.2 (rd (rd_L1 l0 (rd t182 x60_4)) x69_5) p191 q191
           cases e191
           replace p191 := eq_true p191
           replace q191 := eq_true q191
           have p37 : 0 ≤ ((rd (rd_L1 l0 (rd t182 x60_4)) x69_5) : Int) := zT (by assumption)
           have q37 : ((rd (rd_L1 l0 (rd t182 x60_4)) x69_5) : Int) < ((x12_5.length : Int) : Int) := zT (by assumption)
           obtain ⟨go37, co37, eo37, gb37, gl37, cl37, HG37⟩ := Kd.R_form HO_12.out (by omega)
           (first | cases eo37 | (injection eo37 with ea_ en_ ec_; (first | subst ea_ | (injection ea_ with ea_; subst ea_)); subst ec_; clear en_))
           have GB37 := zM gb37
           have GG37 := zM HG37
           clear gb37 gl37 HG37
           (first | simp only [add_plain] at hx191_0 | skip)
           obtain ⟨hx37_0, hf37_0⟩ := Kd.R_celln 0 HO_12.out ((rd (rd_L1 l0 (rd t182 x60_4)) x69_5) : Int) p37 q37
           replace p37 := eq_true p37
           replace q37 := eq_true q37
           have HP39 := Kd.R_putg HO_12.out ((rd (rd_L1 l0 (rd t182 x60_4)) x69_5) : Int) (wrap64 ((rd x12_5 (rd (rd_L1 l0 (rd t182 x60_4)) x69_5)) + 1))
           go_wp2_with (first | ((with_reducible refine gate_store (t := 3) (p := 78) rfl ?_); refine store_event (t := 3) (p := 78) (v := ?vo_w40) (w1 := (wr.setCell ⟨go37, ((rd (rd_L1 l0 (rd t182 x60_4)) x69_5) : Int).toNat, none⟩ (.int .i64 (wrap64 ((rd x12_5 (rd (rd_L1 l0 (rd t182 x60_4)) x69_5)) + 1))))) ?hg ?ho ?hn ?hr ?_; (case ho => rfl); (case hg => rfl); (case hn => rfl); (case hr => first | (go_simp; done) | (go_simp; rfl)); intro w40 hw; have hg : wr.grownBy w40 (some go37) := (by rw [hw]; exact HP39.2); have hp_ : Kd.R (Kd.int .i64) 3 w40 w.heap.size (fun k_ => some k_ ≠ (.slice Ao15 x9_2.length co15 : Value).ownBlock ∧ some k_ ≠ (.slice (some ad188) t182.length co26 : Value).ownBlock) (.slice (some ⟨go37, 0, none⟩) x12_5.length co38) y192 := (by rw [hw, Ny192.out]; exact HP39.1); clear HP39; have n0_ := zM (Kd.R_after (v := (.slice (some ⟨go37, 0, none⟩) x12_5.length co38)) (v1 := (.slice (some ⟨go37, 0, none⟩) x12_5.length co38)) (ok := (fun k_ => some k_ ≠ (.slice (some ad188) t182.length co26 : Value).ownBlock)) (by (with_reducible repeat (first | apply zRa | apply zRn | apply zRd)); first | exact HO_9.out | (subst_vars; exact HO_9.out)) hg (.inl rfl)); have n1_ := zM (Kd.R_after (v := (.slice (some ⟨go37, 0, none⟩) x12_5.length co38)) (v1 := (.slice (some ⟨go37, 0, none⟩) x12_5.length co38)) (ok := (fun k_ => some k_ ≠ (.slice Ao15 x9_2.length co15 : Value).ownBlock)) (by (with_reducible repeat (first | apply zRa | apply zRn | apply zRd)); first | exact HO_11.out | (subst_vars; exact HO_11.out)) hg (.inl rfl)); have n2_ := zM (hp_); have n3_ := zM ((by rw [hw]; exact zBs (HB.out) GB37.out : Below w.heap.size w w40)); clear HO_9; clear HO_11; clear HO_12; clear HB; have HO_9 := n0_; have HO_11 := n1_; have HO_12 := n2_; have HB := n3_; clear n0_ n1_ n2_ n3_; clear hg hw hp_))
           go_roundg k5
           case measure => have := HJ3.out; have := HK2.out; have := HJ13.out; have := HK4.out; have := HK5.out; omega
           case rel => exact ⟨(y192), (wrap64 (x69_5 + 1)), (by first | rfl | (simp; done) | (simp [*]; done)), H', ⟨by have := HJ3.out; have := HK2.out; have := HJ13.out; have := HK4.out; have := HK5.out; omega⟩, ⟨by (with_reducible repeat (first | apply zRa | apply zRn | apply zRd)); first | exact HO_9.out | (subst_vars; exact HO_9.out)⟩, ⟨by (with_reducible repeat (first | apply zRa | apply zRn | apply zRd)); first | exact HO_11.out | (subst_vars; exact HO_11.out)⟩, ⟨by (with_reducible repeat (first | apply zRa | apply zRn | apply zRd)); first | exact HO_12.out | (subst_vars; exact HO_12.out)⟩, ⟨by repeat (first | (with_reducible first | exact HB.out | apply zBa | apply zBn | apply zBd) | exact HB.out)⟩⟩

end Go.Proofs.Ytpphjbogijjnpaa.PFnParities
