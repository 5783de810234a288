-- Written by a turned copy of the print (see the notes of this repo): plain functions and their walks. Lean checks it.
import Derived.Test.YtpphjbogijjnpaaPFnParitiesx0
import Derived.Test.YtpphjbogijjnpaaPFnParitiesx2
import Derived.Test.YtpphjbogijjnpaaPFnParitiesx3
import Derived.Test.YtpphjbogijjnpaaPFnParitiesx4
import Derived.Test.YtpphjbogijjnpaaPFnParitiesx8
namespace Go.Proofs.Ytpphjbogijjnpaa.PFnParities
open Go.RowKit Go.Proofs.YtpphjbogijjnpaaW.PrintWords Go.Proofs.YtpphjbogijjnpaaW.PrintLast Go.Proofs.YtpphjbogijjnpaaW.PrintMore
attribute [local go_sem] max2_int min2_int max_two min_two max_three min_three max_four min_four   -- for this text's walks alone
set_option linter.unusedVariables false
set_option linter.unusedSimpArgs false

/-! ### spec_PassHints: function 21 -/
mutual
def spec_PassHints.j0 : Nat → List (List Int) → List Int → Int → Bool → Option (List Int × Int × Bool)
 | 0, _, _, _, _ => none
 | k + 1, x0, x1, x2, x38 => if x38 = true then (some ((([] : List Int)), 0, false)) else (spec_PassHints.l0 k x0 x1 x2 (([] : List (List Int))) 0)
def spec_PassHints.l0 : Nat → List (List Int) → List Int → Int → List (List Int) → Int → Option (List Int × Int × Bool)
 | 0, _, _, _, _, _ => none
 | k + 1, x0, x1, x2, x9, x10 => if x10 < (x0.length : Int) then (if 0 ≤ x10 then (if 0 ≤ ((rd_L1 x0 x10).length : Int) then (if (((rd_L1 x0 x10).length : Int) : Int).toNat ≤ 35184372088832 then (if x9.length < 5864062014805 then (spec_PassHints.l0 k x0 x1 x2 (x9 ++ [(List.replicate (((rd_L1 x0 x10).length : Int) : Int).toNat 0)]) (wrap64 (x10 + 1))) else (none)) else (none)) else (none)) else (none)) else (spec_PassHints.l1 k x0 x1 x2 x9 0)
def spec_PassHints.l1 : Nat → List (List Int) → List Int → Int → List (List Int) → Int → Option (List Int × Int × Bool)
 | 0, _, _, _, _, _ => none
 | k + 1, x0, x1, x2, x9, x11 => (spec_l16Sums.f k x0 x1 x9).bind fun t240 => ((spec_l16Word.f k t240).bind fun t243 => ((spec_Fails.f k x0 t243).bind fun bt246 => (if (bt246.1.length : Int) = 0 then (spec_PassHints.j3 k x0 x1 x2 x9 x11 t240 t243 bt246.1 true) else (spec_PassHints.j3 k x0 x1 x2 x9 x11 t240 t243 bt246.1 (x11 == x2)))))
def spec_PassHints.j3 : Nat → List (List Int) → List Int → Int → List (List Int) → Int → List Int → List Int → List Int → Bool → Option (List Int × Int × Bool)
 | 0, _, _, _, _, _, _, _, _, _ => none
 | k + 1, x0, x1, x2, x9, x11, x12, x13, x14, x75 => if x75 = true then (some (x13, x11, ((x14.length : Int) == 0))) else (spec_PassHints.l2 k x0 x1 x2 x9 x11 x12 (([] : List (List Int))) 0)
def spec_PassHints.l2 : Nat → List (List Int) → List Int → Int → List (List Int) → Int → List Int → List (List Int) → Int → Option (List Int × Int × Bool)
 | 0, _, _, _, _, _, _, _, _ => none
 | k + 1, x0, x1, x2, x9, x11, x12, x16, x17 => if x17 < (x0.length : Int) then (spec_PassHints.l3 k x0 x1 x2 x9 x11 x12 x16 x17 (([] : List Int)) 0) else (spec_PassHints.l1 k x0 x1 x2 x16 (wrap64 (x11 + 1)))
def spec_PassHints.l3 : Nat → List (List Int) → List Int → Int → List (List Int) → Int → List Int → List (List Int) → Int → List Int → Int → Option (List Int × Int × Bool)
 | 0, _, _, _, _, _, _, _, _, _, _ => none
 | k + 1, x0, x1, x2, x9, x11, x12, x16, x17, x18, x19 => if 0 ≤ x17 then (if x17 < (x0.length : Int) then (if x19 < ((rd_L1 x0 x17).length : Int) then (spec_PassHints.l4 k x0 x1 x2 x9 x11 x12 x16 x17 x18 x19 1000 false 0) else (if x16.length < 5864062014805 then (spec_PassHints.l2 k x0 x1 x2 x9 x11 x12 (x16 ++ [x18]) (wrap64 (x17 + 1))) else (none))) else (none)) else (none)
def spec_PassHints.l4 : Nat → List (List Int) → List Int → Int → List (List Int) → Int → List Int → List (List Int) → Int → List Int → Int → Int → Bool → Int → Option (List Int × Int × Bool)
 | 0, _, _, _, _, _, _, _, _, _, _, _, _, _ => none
 | k + 1, x0, x1, x2, x9, x11, x12, x16, x17, x18, x19, x20, x21, x22 => if 0 ≤ x17 then (if x17 < (x0.length : Int) then (if x22 < ((rd_L1 x0 x17).length : Int) then (if 0 ≤ x22 then (if 0 ≤ (rd (rd_L1 x0 x17) x22) then (if (rd (rd_L1 x0 x17) x22) < (x12.length : Int) then (if x17 < (x9.length : Int) then (if x22 < ((rd_L1 x9 x17).length : Int) then (if x22 = x19 then (spec_PassHints.l4 k x0 x1 x2 x9 x11 x12 x16 x17 x18 x19 x20 x21 (wrap64 (x22 + 1))) else (if (wrap64 ((rd x12 (rd (rd_L1 x0 x17) x22)) - (rd (rd_L1 x9 x17) x22))) < 0 then (if (wrap64 (-(wrap64 ((rd x12 (rd (rd_L1 x0 x17) x22)) - (rd (rd_L1 x9 x17) x22))))) < x20 then (spec_PassHints.l4 k x0 x1 x2 x9 x11 x12 x16 x17 x18 x19 (wrap64 (-(wrap64 ((rd x12 (rd (rd_L1 x0 x17) x22)) - (rd (rd_L1 x9 x17) x22))))) (!x21) (wrap64 (x22 + 1))) else (spec_PassHints.l4 k x0 x1 x2 x9 x11 x12 x16 x17 x18 x19 x20 (!x21) (wrap64 (x22 + 1)))) else (if (wrap64 ((rd x12 (rd (rd_L1 x0 x17) x22)) - (rd (rd_L1 x9 x17) x22))) < x20 then (spec_PassHints.l4 k x0 x1 x2 x9 x11 x12 x16 x17 x18 x19 (wrap64 ((rd x12 (rd (rd_L1 x0 x17) x22)) - (rd (rd_L1 x9 x17) x22))) x21 (wrap64 (x22 + 1))) else (spec_PassHints.l4 k x0 x1 x2 x9 x11 x12 x16 x17 x18 x19 x20 x21 (wrap64 (x22 + 1)))))) else (none)) else (none)) else (none)) else (none)) else (none)) else (if x21 = true then (if x18.length < 17592186044416 then (spec_PassHints.l3 k x0 x1 x2 x9 x11 x12 x16 x17 (x18 ++ [wrap64 (-x20)]) (wrap64 (x19 + 1))) else (none)) else (if x18.length < 17592186044416 then (spec_PassHints.l3 k x0 x1 x2 x9 x11 x12 x16 x17 (x18 ++ [x20]) (wrap64 (x19 + 1))) else (none)))) else (none)) else (none)
end
def spec_PassHints.f (k : Nat) (l0 : List (List Int)) (l1 : List Int) (a2 : Int) : Option (List Int × Int × Bool) := (spec_ChecksOk.f k l0 (l1.length : Int)).bind fun t224 => (if t224 = true then ((spec_l9Wide.f k l1 1000).bind fun t225 => (if t225 = true then ((spec_l1In.f a2 0 50).bind fun t226 => (spec_PassHints.j0 k l0 l1 a2 (!t226))) else (spec_PassHints.j0 k l0 l1 a2 true))) else (spec_PassHints.j0 k l0 l1 a2 true))
theorem spec_PassHints.mono_l : ∀ k, (∀ y0 y1 y2 y3, LeO (spec_PassHints.j0 k y0 y1 y2 y3) (spec_PassHints.j0 (k + 1) y0 y1 y2 y3)) ∧ (∀ y0 y1 y2 y3 y4, LeO (spec_PassHints.l0 k y0 y1 y2 y3 y4) (spec_PassHints.l0 (k + 1) y0 y1 y2 y3 y4)) ∧ (∀ y0 y1 y2 y3 y4, LeO (spec_PassHints.l1 k y0 y1 y2 y3 y4) (spec_PassHints.l1 (k + 1) y0 y1 y2 y3 y4)) ∧ (∀ y0 y1 y2 y3 y4 y5 y6 y7 y8, LeO (spec_PassHints.j3 k y0 y1 y2 y3 y4 y5 y6 y7 y8) (spec_PassHints.j3 (k + 1) y0 y1 y2 y3 y4 y5 y6 y7 y8)) ∧ (∀ y0 y1 y2 y3 y4 y5 y6 y7, LeO (spec_PassHints.l2 k y0 y1 y2 y3 y4 y5 y6 y7) (spec_PassHints.l2 (k + 1) y0 y1 y2 y3 y4 y5 y6 y7)) ∧ (∀ y0 y1 y2 y3 y4 y5 y6 y7 y8 y9, LeO (spec_PassHints.l3 k y0 y1 y2 y3 y4 y5 y6 y7 y8 y9) (spec_PassHints.l3 (k + 1) y0 y1 y2 y3 y4 y5 y6 y7 y8 y9)) ∧ (∀ y0 y1 y2 y3 y4 y5 y6 y7 y8 y9 y10 y11 y12, LeO (spec_PassHints.l4 k y0 y1 y2 y3 y4 y5 y6 y7 y8 y9 y10 y11 y12) (spec_PassHints.l4 (k + 1) y0 y1 y2 y3 y4 y5 y6 y7 y8 y9 y10 y11 y12))
 | 0 => ⟨fun _ _ _ _ r h => by simp [spec_PassHints.j0] at h, fun _ _ _ _ _ r h => by simp [spec_PassHints.l0] at h, fun _ _ _ _ _ r h => by simp [spec_PassHints.l1] at h, fun _ _ _ _ _ _ _ _ _ r h => by simp [spec_PassHints.j3] at h, fun _ _ _ _ _ _ _ _ r h => by simp [spec_PassHints.l2] at h, fun _ _ _ _ _ _ _ _ _ _ r h => by simp [spec_PassHints.l3] at h, fun _ _ _ _ _ _ _ _ _ _ _ _ _ r h => by simp [spec_PassHints.l4] at h⟩
 | k + 1 => by
  obtain ⟨ih0, ih1, ih2, ih3, ih4, ih5, ih6⟩ := spec_PassHints.mono_l k
  refine ⟨?_, ?_, ?_, ?_, ?_, ?_, ?_⟩
  ·intro y0 y1 y2 y3
   unfold spec_PassHints.j0
   repeat' first
   | (with_reducible exact ih0 _ _ _ _)
   | (with_reducible exact ih1 _ _ _ _ _)
   | (with_reducible exact ih2 _ _ _ _ _)
   | (with_reducible exact ih3 _ _ _ _ _ _ _ _ _)
   | (with_reducible exact ih4 _ _ _ _ _ _ _ _)
   | (with_reducible exact ih5 _ _ _ _ _ _ _ _ _ _)
   | (with_reducible exact ih6 _ _ _ _ _ _ _ _ _ _ _ _ _)
   | (with_reducible exact spec_ChecksOk.mono _ _ _)
   | (with_reducible exact spec_Fails.mono _ _ _)
   | (with_reducible exact spec_l16Sums.mono _ _ _ _)
   | (with_reducible exact spec_l16Word.mono _ _)
   | (with_reducible exact spec_l9Wide.mono _ _ _)
   | (with_reducible exact LeO.refl _)
   | (with_reducible exact LeO.none _)
   | (with_reducible refine LeO.ite ?_ ?_)
   | (with_reducible refine LeO.bind ?_ (fun _ => ?_))
  ·intro y0 y1 y2 y3 y4
   unfold spec_PassHints.l0
   repeat' first
   | (with_reducible exact ih0 _ _ _ _)
   | (with_reducible exact ih1 _ _ _ _ _)
   | (with_reducible exact ih2 _ _ _ _ _)
   | (with_reducible exact ih3 _ _ _ _ _ _ _ _ _)
   | (with_reducible exact ih4 _ _ _ _ _ _ _ _)
   | (with_reducible exact ih5 _ _ _ _ _ _ _ _ _ _)
   | (with_reducible exact ih6 _ _ _ _ _ _ _ _ _ _ _ _ _)
   | (with_reducible exact spec_ChecksOk.mono _ _ _)
   | (with_reducible exact spec_Fails.mono _ _ _)
   | (with_reducible exact spec_l16Sums.mono _ _ _ _)
   | (with_reducible exact spec_l16Word.mono _ _)
   | (with_reducible exact spec_l9Wide.mono _ _ _)
   | (with_reducible exact LeO.refl _)
   | (with_reducible exact LeO.none _)
   | (with_reducible refine LeO.ite ?_ ?_)
   | (with_reducible refine LeO.bind ?_ (fun _ => ?_))
  ·intro y0 y1 y2 y3 y4
   unfold spec_PassHints.l1
   repeat' first
   | (with_reducible exact ih0 _ _ _ _)
   | (with_reducible exact ih1 _ _ _ _ _)
   | (with_reducible exact ih2 _ _ _ _ _)
   | (with_reducible exact ih3 _ _ _ _ _ _ _ _ _)
   | (with_reducible exact ih4 _ _ _ _ _ _ _ _)
   | (with_reducible exact ih5 _ _ _ _ _ _ _ _ _ _)
   | (with_reducible exact ih6 _ _ _ _ _ _ _ _ _ _ _ _ _)
   | (with_reducible exact spec_ChecksOk.mono _ _ _)
   | (with_reducible exact spec_Fails.mono _ _ _)
   | (with_reducible exact spec_l16Sums.mono _ _ _ _)
   | (with_reducible exact spec_l16Word.mono _ _)
   | (with_reducible exact spec_l9Wide.mono _ _ _)
   | (with_reducible exact LeO.refl _)
   | (with_reducible exact LeO.none _)
   | (with_reducible refine LeO.ite ?_ ?_)
   | (with_reducible refine LeO.bind ?_ (fun _ => ?_))
  ·intro y0 y1 y2 y3 y4 y5 y6 y7 y8
   unfold spec_PassHints.j3
   repeat' first
   | (with_reducible exact ih0 _ _ _ _)
   | (with_reducible exact ih1 _ _ _ _ _)
   | (with_reducible exact ih2 _ _ _ _ _)
   | (with_reducible exact ih3 _ _ _ _ _ _ _ _ _)
   | (with_reducible exact ih4 _ _ _ _ _ _ _ _)
   | (with_reducible exact ih5 _ _ _ _ _ _ _ _ _ _)
   | (with_reducible exact ih6 _ _ _ _ _ _ _ _ _ _ _ _ _)
   | (with_reducible exact spec_ChecksOk.mono _ _ _)
   | (with_reducible exact spec_Fails.mono _ _ _)
   | (with_reducible exact spec_l16Sums.mono _ _ _ _)
   | (with_reducible exact spec_l16Word.mono _ _)
   | (with_reducible exact spec_l9Wide.mono _ _ _)
   | (with_reducible exact LeO.refl _)
   | (with_reducible exact LeO.none _)
   | (with_reducible refine LeO.ite ?_ ?_)
   | (with_reducible refine LeO.bind ?_ (fun _ => ?_))
  ·intro y0 y1 y2 y3 y4 y5 y6 y7
   unfold spec_PassHints.l2
   repeat' first
   | (with_reducible exact ih0 _ _ _ _)
   | (with_reducible exact ih1 _ _ _ _ _)
   | (with_reducible exact ih2 _ _ _ _ _)
   | (with_reducible exact ih3 _ _ _ _ _ _ _ _ _)
   | (with_reducible exact ih4 _ _ _ _ _ _ _ _)
   | (with_reducible exact ih5 _ _ _ _ _ _ _ _ _ _)
   | (with_reducible exact ih6 _ _ _ _ _ _ _ _ _ _ _ _ _)
   | (with_reducible exact spec_ChecksOk.mono _ _ _)
   | (with_reducible exact spec_Fails.mono _ _ _)
   | (with_reducible exact spec_l16Sums.mono _ _ _ _)
   | (with_reducible exact spec_l16Word.mono _ _)
   | (with_reducible exact spec_l9Wide.mono _ _ _)
   | (with_reducible exact LeO.refl _)
   | (with_reducible exact LeO.none _)
   | (with_reducible refine LeO.ite ?_ ?_)
   | (with_reducible refine LeO.bind ?_ (fun _ => ?_))
  ·intro y0 y1 y2 y3 y4 y5 y6 y7 y8 y9
   unfold spec_PassHints.l3
   repeat' first
   | (with_reducible exact ih0 _ _ _ _)
   | (with_reducible exact ih1 _ _ _ _ _)
   | (with_reducible exact ih2 _ _ _ _ _)
   | (with_reducible exact ih3 _ _ _ _ _ _ _ _ _)
   | (with_reducible exact ih4 _ _ _ _ _ _ _ _)
   | (with_reducible exact ih5 _ _ _ _ _ _ _ _ _ _)
   | (with_reducible exact ih6 _ _ _ _ _ _ _ _ _ _ _ _ _)
   | (with_reducible exact spec_ChecksOk.mono _ _ _)
   | (with_reducible exact spec_Fails.mono _ _ _)
   | (with_reducible exact spec_l16Sums.mono _ _ _ _)
   | (with_reducible exact spec_l16Word.mono _ _)
   | (with_reducible exact spec_l9Wide.mono _ _ _)
   | (with_reducible exact LeO.refl _)
   | (with_reducible exact LeO.none _)
   | (with_reducible refine LeO.ite ?_ ?_)
   | (with_reducible refine LeO.bind ?_ (fun _ => ?_))
  ·intro y0 y1 y2 y3 y4 y5 y6 y7 y8 y9 y10 y11 y12
   unfold spec_PassHints.l4
   repeat' first
   | (with_reducible exact ih0 _ _ _ _)
   | (with_reducible exact ih1 _ _ _ _ _)
   | (with_reducible exact ih2 _ _ _ _ _)
   | (with_reducible exact ih3 _ _ _ _ _ _ _ _ _)
   | (with_reducible exact ih4 _ _ _ _ _ _ _ _)
   | (with_reducible exact ih5 _ _ _ _ _ _ _ _ _ _)
   | (with_reducible exact ih6 _ _ _ _ _ _ _ _ _ _ _ _ _)
   | (with_reducible exact spec_ChecksOk.mono _ _ _)
   | (with_reducible exact spec_Fails.mono _ _ _)
   | (with_reducible exact spec_l16Sums.mono _ _ _ _)
   | (with_reducible exact spec_l16Word.mono _ _)
   | (with_reducible exact spec_l9Wide.mono _ _ _)
   | (with_reducible exact LeO.refl _)
   | (with_reducible exact LeO.none _)
   | (with_reducible refine LeO.ite ?_ ?_)
   | (with_reducible refine LeO.bind ?_ (fun _ => ?_))
theorem spec_PassHints.mono : ∀ a0 a1 a2 k, LeO (spec_PassHints.f k a0 a1 a2) (spec_PassHints.f (k + 1) a0 a1 a2) := by
 intro a0 a1 a2 k
 obtain ⟨ih0, ih1, ih2, ih3, ih4, ih5, ih6⟩ := spec_PassHints.mono_l k
 unfold spec_PassHints.f
 repeat' first
  | (with_reducible exact ih0 _ _ _ _)
  | (with_reducible exact ih1 _ _ _ _ _)
  | (with_reducible exact ih2 _ _ _ _ _)
  | (with_reducible exact ih3 _ _ _ _ _ _ _ _ _)
  | (with_reducible exact ih4 _ _ _ _ _ _ _ _)
  | (with_reducible exact ih5 _ _ _ _ _ _ _ _ _ _)
  | (with_reducible exact ih6 _ _ _ _ _ _ _ _ _ _ _ _ _)
  | (with_reducible exact spec_ChecksOk.mono _ _ _)
  | (with_reducible exact spec_Fails.mono _ _ _)
  | (with_reducible exact spec_l16Sums.mono _ _ _ _)
  | (with_reducible exact spec_l16Word.mono _ _)
  | (with_reducible exact spec_l9Wide.mono _ _ _)
  | (with_reducible exact LeO.refl _)
  | (with_reducible exact LeO.none _)
  | (with_reducible refine LeO.ite ?_ ?_)
  | (with_reducible refine LeO.bind ?_ (fun _ => ?_))
set_option maxHeartbeats 8000000 in
set_option maxRecDepth 100000 in
theorem spec_PassHints.calls (k : Nat) (A0 : Option Addr) (c0 : Nat) (l0 : List (List Int)) (A1 : Option Addr) (c1 : Nat) (l1 : List Int) (a2 : Int) (r1 : List Int) (r2 : Int) (r3 : Bool) (w : World) (hr0 : Kd.C (Kd.slice 3 (Kd.int .i64)) w A0 l0.length l0) (hc0 : l0.length ≤ c0) (hr1 : Kd.C (Kd.int .i64) w A1 l1.length l1) (hc1 : l1.length ≤ c1) (h : spec_PassHints.f k l0 l1 a2 = some (r1, r2, r3)) :
 Calls Try.prog 21 #[.slice A0 l0.length c0, .slice A1 l1.length c1, .int .i64 a2] w fun e w' => ∃ v0_ : Value, e = .returned (.tuple #[v0_, .int .i64 r2, .bool r3]) ∧ Kd.R (Kd.int .i64) 3 w' w.heap.size (fun _ => True) v0_ r1 ∧ Below w.heap.size w w' := by
 have HR0 := zM hr0
 have HC0 := zM hc0
 clear hr0 hc0
 have HR1 := zM hr1
 have HC1 := zM hc1
 clear hr1 hc1
 have HB := zM (Below.refl w.heap.size w)
 have H : ((spec_ChecksOk.f k l0 (l1.length : Int)).bind fun t224 => (if t224 = true then ((spec_l9Wide.f k l1 1000).bind fun t225 => (if t225 = true then ((spec_l1In.f a2 0 50).bind fun t226 => (spec_PassHints.j0 k l0 l1 a2 (!t226))) else (spec_PassHints.j0 k l0 l1 a2 true))) else (spec_PassHints.j0 k l0 l1 a2 true))) = some (r1, r2, r3) := h
 clear h
 have HC4 := zM H
 clear H
 go_enter Try.func21, Try.ntmps21
 go_upto_region 1 with (fail)
 repeat (go_quiet (fail); go_upto_region 1 with (fail))
 go_cut [38] (fun v38 wc => ∃ (kq : Nat) (x38_3 : Bool), v38 = .bool x38_3 ∧ Aside0 (spec_PassHints.j0 kq l0 l1 a2 x38_3 = some (r1, r2, r3)) ∧ Aside0 (kq ≤ k) ∧ Aside0 (Below w.heap.size w wc))
 case first =>
  have H := HC4.out
  clear HC4
  replace H := zO.mp H
  obtain ⟨t224, A50, H⟩ := H
  replace H : (if t224 = true then ((spec_l9Wide.f k l1 1000).bind fun t225 => (if t225 = true then ((spec_l1In.f a2 0 50).bind fun t226 => (spec_PassHints.j0 k l0 l1 a2 (!t226))) else (spec_PassHints.j0 k l0 l1 a2 true))) else (spec_PassHints.j0 k l0 l1 a2 true)) = some (r1, r2, r3) := H
  have A5 := zM A50
  clear A50
  by_cases c6 : t224 = true
  case neg =>
   replace c6 := Bool.eq_false_iff.mpr c6
   subst c6
   have H1 : (spec_PassHints.j0 k l0 l1 a2 true) = some (r1, r2, r3) := by rw [if_neg (show ¬ (false = true) by decide)] at H; exact H
   clear H
   have H := H1
   clear H1
   have H' := zM H
   clear H
   go_wp2_with (first | (go_at_call 34; (with_reducible refine (spec_ChecksOk.calls k _ _ l0 (l1.length : Int) false _ ?side1 ?side2 A5.out).mono ?_); (case side1 => repeat (first | exact (Kd.C_below HR0.out HB.out) | (with_reducible first | refine zCa ?_ _ | refine zCn ?_ _ | refine zCd ?_))); (case side2 => exact HC0.out); rintro e w12 ⟨rfl, hb⟩; have n0_ := zM (below_step (by repeat (first | (with_reducible first | exact HB.out | apply zBa | apply zBn | apply zBd) | exact HB.out)) hb); clear HB; have HB := n0_; clear n0_; (try clear hb); (try clear hb2); (try clear hk); (try clear hi)))
   go_meet
   case rel => exact ⟨_, (true), (by first | rfl | (simp; done) | (simp [*]; done)), H', ⟨by first | omega | exact Nat.le_refl _⟩, ⟨by repeat (first | (with_reducible first | exact HB.out | apply zBa | apply zBn | apply zBd) | exact HB.out)⟩⟩
  subst c6
  have H1 : ((spec_l9Wide.f k l1 1000).bind fun t225 => (if t225 = true then ((spec_l1In.f a2 0 50).bind fun t226 => (spec_PassHints.j0 k l0 l1 a2 (!t226))) else (spec_PassHints.j0 k l0 l1 a2 true))) = some (r1, r2, r3) := by rw [if_pos rfl] at H; exact H
  clear H
  have H := H1
  clear H1
  replace H := zO.mp H
  obtain ⟨t225, A70, H⟩ := H
  replace H : (if t225 = true then ((spec_l1In.f a2 0 50).bind fun t226 => (spec_PassHints.j0 k l0 l1 a2 (!t226))) else (spec_PassHints.j0 k l0 l1 a2 true)) = some (r1, r2, r3) := H
  have A7 := zM A70
  clear A70
  by_cases c8 : t225 = true
  case neg =>
   replace c8 := Bool.eq_false_iff.mpr c8
   subst c8
   have H1 : (spec_PassHints.j0 k l0 l1 a2 true) = some (r1, r2, r3) := by rw [if_neg (show ¬ (false = true) by decide)] at H; exact H
   clear H
   have H := H1
   clear H1
   have H' := zM H
   clear H
   go_wp2_with (first | (go_at_call 34; (with_reducible refine (spec_ChecksOk.calls k _ _ l0 (l1.length : Int) true _ ?side1 ?side2 A5.out).mono ?_); (case side1 => repeat (first | exact (Kd.C_below HR0.out HB.out) | (with_reducible first | refine zCa ?_ _ | refine zCn ?_ _ | refine zCd ?_))); (case side2 => exact HC0.out); rintro e w11 ⟨rfl, hb⟩; have n0_ := zM (below_step (by repeat (first | (with_reducible first | exact HB.out | apply zBa | apply zBn | apply zBd) | exact HB.out)) hb); clear HB; have HB := n0_; clear n0_; (try clear hb); (try clear hb2); (try clear hk); (try clear hi)) | (go_at_call 42; (with_reducible refine (spec_l9Wide.calls k _ _ l1 1000 false _ ?side1 ?side2 A7.out).mono ?_); (case side1 => repeat (first | exact (Kd.C_below HR1.out HB.out) | (with_reducible first | refine zCa ?_ _ | refine zCn ?_ _ | refine zCd ?_))); (case side2 => exact HC1.out); rintro e w' ⟨rfl, ⟨nd, rfl⟩⟩; (try first | exact ⟨rfl, _, zD _ _ _⟩ | exact ⟨rfl, _, Eq.trans (zD _ _ _) (congrArg (World.drewN _) (Nat.add_assoc _ _ _))⟩)))
   go_meet
   case rel => exact ⟨_, (true), (by first | rfl | (simp; done) | (simp [*]; done)), H', ⟨by first | omega | exact Nat.le_refl _⟩, ⟨by repeat (first | (with_reducible first | exact HB.out | apply zBa | apply zBn | apply zBd) | exact HB.out)⟩⟩
  subst c8
  have H1 : ((spec_l1In.f a2 0 50).bind fun t226 => (spec_PassHints.j0 k l0 l1 a2 (!t226))) = some (r1, r2, r3) := by rw [if_pos rfl] at H; exact H
  clear H
  have H := H1
  clear H1
  replace H := zO.mp H
  obtain ⟨t226, A90, H⟩ := H
  replace H : (spec_PassHints.j0 k l0 l1 a2 (!t226)) = some (r1, r2, r3) := H
  have A9 := zM A90
  clear A90
  have H' := zM H
  clear H
  go_wp2_with (first | (go_at_call 34; (with_reducible refine (spec_ChecksOk.calls k _ _ l0 (l1.length : Int) true _ ?side1 ?side2 A5.out).mono ?_); (case side1 => repeat (first | exact (Kd.C_below HR0.out HB.out) | (with_reducible first | refine zCa ?_ _ | refine zCn ?_ _ | refine zCd ?_))); (case side2 => exact HC0.out); rintro e w10 ⟨rfl, hb⟩; have n0_ := zM (below_step (by repeat (first | (with_reducible first | exact HB.out | apply zBa | apply zBn | apply zBd) | exact HB.out)) hb); clear HB; have HB := n0_; clear n0_; (try clear hb); (try clear hb2); (try clear hk); (try clear hi)) | (go_at_call 42; (with_reducible refine (spec_l9Wide.calls k _ _ l1 1000 true _ ?side1 ?side2 A7.out).mono ?_); (case side1 => repeat (first | exact (Kd.C_below HR1.out HB.out) | (with_reducible first | refine zCa ?_ _ | refine zCn ?_ _ | refine zCd ?_))); (case side2 => exact HC1.out); rintro e w' ⟨rfl, ⟨nd, rfl⟩⟩; (try first | exact ⟨rfl, _, zD _ _ _⟩ | exact ⟨rfl, _, Eq.trans (zD _ _ _) (congrArg (World.drewN _) (Nat.add_assoc _ _ _))⟩)) | (go_at_call 38; (with_reducible refine (spec_l1In.calls a2 0 50 t226 _ A9.out).mono ?_); rintro e w' ⟨rfl, ⟨nd, rfl⟩⟩; (try first | exact ⟨rfl, _, zD _ _ _⟩ | exact ⟨rfl, _, Eq.trans (zD _ _ _) (congrArg (World.drewN _) (Nat.add_assoc _ _ _))⟩)))
  go_meet
  case rel => exact ⟨_, (!t226), (by first | rfl | (simp; done) | (simp [*]; done)), H', ⟨by first | omega | exact Nat.le_refl _⟩, ⟨by repeat (first | (with_reducible first | exact HB.out | apply zBa | apply zBn | apply zBd) | exact HB.out)⟩⟩
 case rest =>
  clear HC4
  try clear c1
  try clear c2
  try clear p2
  try clear c6
  try clear c8
  obtain ⟨kq, x38_3, rfl, HA, HJ3, HB⟩ := hcut
  cases kq with
  | zero => exact absurd HA.out (by simp [spec_PassHints.j0])
  | succ kj3 =>
   have H := HA.out
   clear HA
   simp only [spec_PassHints.j0] at H
   by_cases c13 : x38_3 = true
   case pos =>
    subst c13
    have H1 : (some ((([] : List Int)), 0, false)) = some (r1, r2, r3) := by rw [if_pos rfl] at H; exact H
    clear H
    have H := H1
    clear H1
    obtain ⟨y227, hy227⟩ : ∃ y_ : List Int, y_ = (([] : List Int)) := ⟨_, rfl⟩
    replace H : (some (y227, 0, false)) = some (r1, r2, r3) := by first | (rw [hy227]; with_reducible exact H) | (have H2_ := (Option.bind_some _ _).symm.trans H; rw [hy227]; with_reducible exact H2_) | (have H2_ := (Option.bind_some _ _).symm.trans H; with_reducible exact H2_) | with_reducible exact H | (rw [hy227]; exact H) | exact H
    have Ny227 := zM hy227
    clear hy227
    simp only [Option.some.injEq, Prod.mk.injEq] at H
    obtain ⟨rfl, rfl, rfl⟩ := H
    go_wp2_with (first | ((with_reducible refine gate_dst (N := 39) rfl ?_); refine Kd.R_lit (Kd.int .i64) _ 3 ?hg (N := 39) ?hd (xs := ([] : List Int)) (inner := []) (ok := fun _ => True) (okp := fun _ => True) ?hr ?hp (fun _ hk => hk) trivial (Below.refl _ _) (Nat.le_refl _) (by simp) ?_; (case hd => rfl); (case hg => rfl); (case hr => first | (go_simp; done) | (go_simp; rfl)); (case hp => exact (Reps.none _ _)); intro v228 w14 ho15 hb hg_ hnew_; clear hg_ hnew_; (first | rw [← Ny227.out] at ho15 | (simp only [Int.reduceToNat] at ho15; rw [← Ny227.out] at ho15)); have n0_ := zM (Kd.R_lower ho15 (below_size (by repeat (first | (with_reducible first | exact HB.out | apply zBa | apply zBn | apply zBd) | exact HB.out)))); have n1_ := zM (below_step (by repeat (first | (with_reducible first | exact HB.out | apply zBa | apply zBn | apply zBd) | exact HB.out)) hb); clear HB; have HO229 := n0_; have HB := n1_; clear n0_ n1_; clear hb ho15))
    go_ret3
    exact ⟨_, by first | rfl | (simp [errW_none, errW_some] <;> rfl) | (simp [*, errW_none, errW_some] <;> rfl), by (with_reducible repeat (first | apply zRa | apply zRn | apply zRd)); first | exact HO229.out | (subst_vars; exact HO229.out), by repeat (first | (with_reducible first | exact HB.out | apply zBa | apply zBn | apply zBd) | exact HB.out)⟩
   replace c13 := Bool.eq_false_iff.mpr c13
   subst c13
   have H1 : (spec_PassHints.l0 kj3 l0 l1 a2 (([] : List (List Int))) 0) = some (r1, r2, r3) := by rw [if_neg (show ¬ (false = true) by decide)] at H; exact H
   clear H
   have H := H1
   clear H1
   obtain ⟨y230, hy230⟩ : ∃ y_ : List (List Int), y_ = (([] : List (List Int))) := ⟨_, rfl⟩
   replace H : (spec_PassHints.l0 kj3 l0 l1 a2 y230 0) = some (r1, r2, r3) := by first | (rw [hy230]; with_reducible exact H) | (have H2_ := (Option.bind_some _ _).symm.trans H; rw [hy230]; with_reducible exact H2_) | (have H2_ := (Option.bind_some _ _).symm.trans H; with_reducible exact H2_) | with_reducible exact H | (rw [hy230]; exact H) | exact H
   have Ny230 := zM hy230
   clear hy230
   have H' := zM H
   clear H
   go_wp2_with (first | ((with_reducible refine gate_dst (N := 40) rfl ?_); refine Kd.S_lit (Kd.slice 3 (Kd.int .i64)) _ 23 ?hg (N := 40) ?hd (xs := ([] : List (List Int))) (inner := []) (ok := fun _ => True) (okp := fun _ => True) ?hr ?hp (fun _ hk => hk) trivial (Below.refl _ _) (Nat.le_refl _) (by simp) ?_; (case hd => rfl); (case hg => rfl); (case hr => first | (go_simp; done) | (go_simp; rfl)); (case hp => exact (Reps.none _ _)); intro v231 w16 ho17 hb hg_ hnew_; clear hg_ hnew_; (first | rw [← Ny230.out] at ho17 | (simp only [Int.reduceToNat] at ho17; rw [← Ny230.out] at ho17)); have n0_ := zM (Kd.S_lower ho17 (below_size (by repeat (first | (with_reducible first | exact HB.out | apply zBa | apply zBn | apply zBd) | exact HB.out)))); have n1_ := zM (below_step (by repeat (first | (with_reducible first | exact HB.out | apply zBa | apply zBn | apply zBd) | exact HB.out)) hb); clear HB; have HO232 := n0_; have HB := n1_; clear n0_ n1_; clear hb ho17))
   (try simp only [Act.put, zS1, zS2, zS3])
   go_loopg [9, 10] kj3 (fun kq v9 v10 w' => ∃ (x9_2 : List (List Int)) (x10_2 : Int), v10 = .int .i64 x10_2 ∧ Aside0 (spec_PassHints.l0 kq l0 l1 a2 x9_2 x10_2 = some (r1, r2, r3)) ∧ Aside0 (kq ≤ kj3) ∧ Aside0 (Kd.S (Kd.slice 3 (Kd.int .i64)) 23 w' w.heap.size (fun _ => True) v9 x9_2) ∧ Aside0 (Below w.heap.size w w'))
   case atStart => exact ⟨(y230), (0), (by first | rfl | (simp; done) | (simp [*]; done)), H', ⟨Nat.le_refl _⟩, ⟨by (with_reducible repeat (first | apply Kd.S_alloc | apply Kd.S_drewN | apply Kd.S_drew)); first | exact HO232.out | (subst_vars; exact HO232.out)⟩, ⟨by repeat (first | (with_reducible first | exact HB.out | apply zBa | apply zBn | apply zBd) | exact HB.out)⟩⟩
   case round =>
    clear H'
    try clear c1
    try clear c2
    try clear p2
    try clear c6
    try clear c8
    try clear c13
    try clear p2
    obtain ⟨x9_2, x10_2, rfl, HA, HK2, HO_9, HB⟩ := hrel
    cases gk with
    | zero => exact absurd HA.out (by simp [spec_PassHints.l0])
    | succ k2 =>
     have H := HA.out
     clear HA
     simp only [spec_PassHints.l0] at H
     by_cases c18 : x10_2 < (l0.length : Int)
     case pos =>
      rw [if_pos c18] at H
      have c18b0 : decide (x10_2 < (l0.length : Int)) = true := zE c18
      clear c18
      by_cases c19 : 0 ≤ x10_2
      case neg =>
       rw [if_neg c19] at H
       exact absurd H (by simp)
      rw [if_pos c19] at H
      have c19b0 : decide (0 ≤ x10_2) = true := zE c19
      clear c19
      by_cases c20 : 0 ≤ ((rd_L1 l0 x10_2).length : Int)
      case neg =>
       rw [if_neg c20] at H
       exact absurd H (by simp)
      rw [if_pos c20] at H
      have c20b0 := eq_true c20
      have c20b1 : decide (0 ≤ ((rd_L1 l0 x10_2).length : Int)) = true := zE c20
      clear c20
      by_cases c21 : (((rd_L1 l0 x10_2).length : Int) : Int).toNat ≤ 35184372088832
      case neg =>
       rw [if_neg c21] at H
       exact absurd H (by simp)
      rw [if_pos c21] at H
      have c21b0 := eq_true c21
      have c21b1 : decide ((((rd_L1 l0 x10_2).length : Int) : Int).toNat ≤ 35184372088832) = true := zE c21
      clear c21
      obtain ⟨y234, hy234⟩ : ∃ y_ : List Int, y_ = (List.replicate (((rd_L1 l0 x10_2).length : Int) : Int).toNat 0) := ⟨_, rfl⟩
      replace H : (if x9_2.length < 5864062014805 then (spec_PassHints.l0 k2 l0 l1 a2 (x9_2 ++ [y234]) (wrap64 (x10_2 + 1))) else (none)) = some (r1, r2, r3) := by first | (rw [hy234]; with_reducible exact H) | (have H2_ := (Option.bind_some _ _).symm.trans H; rw [hy234]; with_reducible exact H2_) | (have H2_ := (Option.bind_some _ _).symm.trans H; with_reducible exact H2_) | with_reducible exact H | (rw [hy234]; exact H) | exact H
      have Ny234 := zM hy234
      clear hy234
      by_cases c22 : x9_2.length < 5864062014805
      case neg =>
       rw [if_neg c22] at H
       exact absurd H (by simp)
      rw [if_pos c22] at H
      have LMc22 := zM c22
      clear c22
      obtain ⟨y237, hy237⟩ : ∃ y_ : List (List Int), y_ = (x9_2 ++ [y234]) := ⟨_, rfl⟩
      replace H : (spec_PassHints.l0 k2 l0 l1 a2 y237 (wrap64 (x10_2 + 1))) = some (r1, r2, r3) := by first | (rw [hy237]; with_reducible exact H) | (have H2_ := (Option.bind_some _ _).symm.trans H; rw [hy237]; with_reducible exact H2_) | (have H2_ := (Option.bind_some _ _).symm.trans H; with_reducible exact H2_) | with_reducible exact H | (rw [hy237]; exact H) | exact H
      have Ny237 := zM hy237
      clear hy237
      have H' := zM H
      clear H
      have p233 : 0 ≤ (x10_2 : Int) := zT (by assumption)
      have q233 : x10_2 < (l0.length : Int) := zT (by assumption)
      obtain ⟨ad233, A233_0, c233_0, e233, hx233_0, hl233_0, hi233_0⟩ := at_L1 HR0.out x10_2 p233 q233
      cases e233
      replace hx233_0 := (HB.out.cell (zW w _ hx233_0)).trans hx233_0
      have HR233_0 := zM hi233_0
      have HC233_0 := zM hl233_0
      clear hi233_0 hl233_0
      replace p233 := eq_true p233
      replace q233 := eq_true q233
      go_wp2_with (first | ((with_reducible refine gate_dst (N := 53) rfl ?_); refine Kd.R_make (Kd.int .i64) _ 3 rfl (N := 53) rfl 23 _ _ rfl ((rd_L1 l0 x10_2).length : Int) rfl rfl Try.underlying23 (.int .i64 0) 8 info3 rfl (by decide) (by omega) 0 (ok := fun _ => True) (okp := fun _ => True) rfl (fun _ hk => hk) trivial (zT (by assumption)) (Nat.le_trans (Nat.mul_le_mul_right _ (zT (by assumption) : ((rd_L1 l0 x10_2).length : Int).toNat ≤ 35184372088832)) (by omega)) (Below.refl _ _) (Nat.le_refl _) ?_; intro v235 w23 ho24 hb hg_ hnew_; clear hg_ hnew_; (first | rw [← Ny234.out] at ho24 | (simp only [Int.reduceToNat] at ho24; rw [← Ny234.out] at ho24)); have n0_ := zM (Kd.S_elder' (by (with_reducible repeat (first | apply Kd.S_alloc | apply Kd.S_drewN | apply Kd.S_drew)); first | exact HO_9.out | (subst_vars; exact HO_9.out)) (Kd.R_base ho24) hb); have n1_ := zM (Kd.R_lower ho24 (below_size (by repeat (first | (with_reducible first | exact HB.out | apply zBa | apply zBn | apply zBd) | exact HB.out)))); have n2_ := zM (below_step (by repeat (first | (with_reducible first | exact HB.out | apply zBa | apply zBn | apply zBd) | exact HB.out)) hb); clear HO_9; clear HB; have HO_9 := n0_; have HO236 := n1_; have HB := n2_; clear n0_ n1_ n2_; clear hb ho24; obtain ⟨Ao26, co26, eo26⟩ := Kd.R_slice HO236.out; subst eo26) | ((with_reducible refine gate_builtin (b := .append) (xs := #[.tmp 47, .tmp 54]) rfl ?_); at_builtin; refine Kd.S_append (Kd.slice 3 (Kd.int .i64)) (w0 := w) w.heap.size rfl (.tmp 47) (.tmp 54) 22 23 (.slice none 0 0) 24 rfl Try.underlying22 info23 rfl (by decide) (by omega) u9 x9_2 y234 [.slice Ao26 y234.length co26] (fun _ => True) (fun k_ => some k_ = (.slice Ao26 y234.length co26 : Value).ownBlock) rfl rfl ?aP (fun k_ hk_ => ((Kd.R_mono (ok' := fun k_ => ((fun _ => True)) k_ ∧ some k_ ≠ (u9 : Value).ownBlock) (Kd.R_apart' (HO236.out) (Kd.S_typed HO_9.out) (by decide)) (fun k_ hk => ⟨trivial, hk.2⟩))).1 k_ hk_.symm) ?aF ?aO ?aB ?aS ?aL ?_; (case aP => exact Kd.M_row (Kd.R_mono (Kd.R_tight rfl (Kd.R_mono (ok' := fun k_ => ((fun _ => True)) k_ ∧ some k_ ≠ (u9 : Value).ownBlock) (Kd.R_apart' (HO236.out) (Kd.S_typed HO_9.out) (by decide)) (fun k_ hk => ⟨trivial, hk.2⟩))) (fun _ h_ => h_))); (case aB => exact (by repeat (first | (with_reducible first | exact HB.out | apply zBa | apply zBn | apply zBd) | exact HB.out))); (case aF => exact (fun _ _ => trivial)); (case aO => exact (by (with_reducible repeat (first | apply Kd.S_alloc | apply Kd.S_drewN | apply Kd.S_drew)); exact Kd.S_mono HO_9.out (fun k_ hk => ⟨trivial, fun e_ => hk.2 e_⟩))); (case aS => exact (below_size (by repeat (first | (with_reducible first | exact HB.out | apply zBa | apply zBn | apply zBd) | exact HB.out)))); (case aL => have := LMc22.out; omega); intro v238 w25 ho hb hg hat; (first | rw [← Ny237.out] at ho | (simp only [Int.reduceToNat] at ho; rw [← Ny237.out] at ho)); have n0_ := zM (hb); have n1_ := zM (ho); clear HB; clear HO_9; clear HO236; have HB := n0_; have HO239 := n1_; clear n0_ n1_; clear ho hb hg hat))
      go_roundg k2
      case measure => have := HJ3.out; have := HK2.out; omega
      case rel => exact ⟨(y237), (wrap64 (x10_2 + 1)), (by first | rfl | (simp; done) | (simp [*]; done)), H', ⟨by have := HJ3.out; have := HK2.out; omega⟩, ⟨by (with_reducible repeat (first | apply Kd.S_alloc | apply Kd.S_drewN | apply Kd.S_drew)); first | exact HO239.out | (subst_vars; exact HO239.out)⟩, ⟨by repeat (first | (with_reducible first | exact HB.out | apply zBa | apply zBn | apply zBd) | exact HB.out)⟩⟩
     rw [if_neg c18] at H
     have c18b0 : decide (x10_2 < (l0.length : Int)) = false := decide_eq_false c18
     clear c18
     have H' := zM H
     clear H
     go_wp2
     repeat (go_quiet (fail); try go_wp2)
     (try simp only [Act.put, zS1, zS2, zS3])
     go_loopg [9, 11] k2 (fun kq v9 v11 w' => ∃ (x9_3 : List (List Int)) (x11_3 : Int), v11 = .int .i64 x11_3 ∧ Aside0 (spec_PassHints.l1 kq l0 l1 a2 x9_3 x11_3 = some (r1, r2, r3)) ∧ Aside0 (kq ≤ k2) ∧ Aside0 (Kd.S (Kd.slice 3 (Kd.int .i64)) 23 w' w.heap.size (fun _ => True) v9 x9_3) ∧ Aside0 (Below w.heap.size w w'))
     case atStart => exact ⟨(x9_2), (0), (by first | rfl | (simp; done) | (simp [*]; done)), H', ⟨Nat.le_refl _⟩, ⟨by (with_reducible repeat (first | apply Kd.S_alloc | apply Kd.S_drewN | apply Kd.S_drew)); first | exact HO_9.out | (subst_vars; exact HO_9.out)⟩, ⟨by repeat (first | (with_reducible first | exact HB.out | apply zBa | apply zBn | apply zBd) | exact HB.out)⟩⟩
     case round =>
      clear H'
      try clear c1
      try clear c2
      try clear p2
      try clear q2
      try clear hx2
      try clear c6
      try clear p6
      try clear c8
      try clear c13
      try clear c18
      try clear c18b0
      try clear c19
      try clear c19b0
      try clear c20
      try clear c20b0
      try clear c20b1
      try clear c21
      try clear c21b0
      try clear c21b1
      try clear c22
      try clear c23
      try clear p23
      try clear q23
      try clear hx23
      try clear hx233_0
      try clear p2
      try clear p233
      try clear q233
      obtain ⟨x9_3, x11_3, rfl, HA, HK3, HO_9, HB⟩ := hrel
      cases gk with
      | zero => exact absurd HA.out (by simp [spec_PassHints.l1])
      | succ k3 =>
       have H := HA.out
       clear HA
       simp only [spec_PassHints.l1] at H
       replace H := zO.mp H
       obtain ⟨t240, A270, H⟩ := H
       replace H : ((spec_l16Word.f k3 t240).bind fun t243 => ((spec_Fails.f k3 l0 t243).bind fun bt246 => (if (bt246.1.length : Int) = 0 then (spec_PassHints.j3 k3 l0 l1 a2 x9_3 x11_3 t240 t243 bt246.1 true) else (spec_PassHints.j3 k3 l0 l1 a2 x9_3 x11_3 t240 t243 bt246.1 (x11_3 == a2))))) = some (r1, r2, r3) := H
       have A27 := zM A270
       clear A270
       replace H := zO.mp H
       obtain ⟨t243, A280, H⟩ := H
       replace H : ((spec_Fails.f k3 l0 t243).bind fun bt246 => (if (bt246.1.length : Int) = 0 then (spec_PassHints.j3 k3 l0 l1 a2 x9_3 x11_3 t240 t243 bt246.1 true) else (spec_PassHints.j3 k3 l0 l1 a2 x9_3 x11_3 t240 t243 bt246.1 (x11_3 == a2)))) = some (r1, r2, r3) := H
       have A28 := zM A280
       clear A280
       replace H := zO.mp H
       obtain ⟨⟨t246, t247⟩, A290, H⟩ := H
       replace H : (if (t246.length : Int) = 0 then (spec_PassHints.j3 k3 l0 l1 a2 x9_3 x11_3 t240 t243 t246 true) else (spec_PassHints.j3 k3 l0 l1 a2 x9_3 x11_3 t240 t243 t246 (x11_3 == a2))) = some (r1, r2, r3) := H
       have A29 := zM A290
       clear A290
       have HC30 := zM H
       clear H
       obtain ⟨Ao31, co31, eo31⟩ := Kd.S_slice HO_9.out
       subst eo31
       go_upto_region 12 with (first | (go_at_call 43; (with_reducible refine (spec_l16Sums.calls k3 _ _ l0 _ _ l1 _ _ x9_3 t240 _ ?side1 ?side2 ?side3 ?side4 ?side5 ?side6 A27.out).mono ?_); (case side1 => repeat (first | exact (Kd.C_below HR0.out HB.out) | (with_reducible first | refine zCa ?_ _ | refine zCn ?_ _ | refine zCd ?_))); (case side2 => exact HC0.out); (case side3 => repeat (first | exact (Kd.C_below HR1.out HB.out) | (with_reducible first | refine zCa ?_ _ | refine zCn ?_ _ | refine zCd ?_))); (case side4 => exact HC1.out); (case side5 => repeat (first | exact (Kd.S_reads' HO_9.out).2.2 | (with_reducible first | refine zCa ?_ _ | refine zCn ?_ _ | refine zCd ?_))); (case side6 => exact (Kd.S_reads' HO_9.out).2.1); rintro e w32 ⟨v241, rfl, ho0, hb⟩; have n0_ := zM (Kd.S_elder' (by (with_reducible repeat (first | apply Kd.S_alloc | apply Kd.S_drewN | apply Kd.S_drew)); first | exact HO_9.out | (subst_vars; exact HO_9.out)) (Kd.R_base ho0) hb); have n1_ := zM (Kd.R_lower ho0 (below_size (by repeat (first | (with_reducible first | exact HB.out | apply zBa | apply zBn | apply zBd) | exact HB.out)))); have n2_ := zM (below_step (by repeat (first | (with_reducible first | exact HB.out | apply zBa | apply zBn | apply zBd) | exact HB.out)) hb); clear HO_9; clear HB; have HO_9 := n0_; have HO242 := n1_; have HB := n2_; clear n0_ n1_ n2_; (try clear hb); (try clear hb2); (try clear hk); (try clear hi); (try clear ho0); obtain ⟨Ao33, co33, eo33⟩ := Kd.R_slice HO242.out; subst eo33) | (go_at_call 44; (with_reducible refine (spec_l16Word.calls k3 _ _ t240 t243 _ ?side1 ?side2 A28.out).mono ?_); (case side1 => repeat (first | exact (Kd.R_reads' HO242.out).2.2 | (with_reducible first | refine zCa ?_ _ | refine zCn ?_ _ | refine zCd ?_))); (case side2 => exact (Kd.R_reads' HO242.out).2.1); rintro e w34 ⟨v244, rfl, ho0, hb⟩; have n0_ := zM (Kd.S_elder' (by (with_reducible repeat (first | apply Kd.S_alloc | apply Kd.S_drewN | apply Kd.S_drew)); first | exact HO_9.out | (subst_vars; exact HO_9.out)) (Kd.R_base ho0) hb); have n1_ := zM (Kd.R_elder' (by (with_reducible repeat (first | apply zRa | apply zRn | apply zRd)); first | exact HO242.out | (subst_vars; exact HO242.out)) (Kd.R_base ho0) hb); have n2_ := zM (Kd.R_lower (Kd.R_new' ho0 (Kd.R_lt (by (with_reducible repeat (first | apply zRa | apply zRn | apply zRd)); first | exact HO242.out | (subst_vars; exact HO242.out)))) (below_size (by repeat (first | (with_reducible first | exact HB.out | apply zBa | apply zBn | apply zBd) | exact HB.out)))); have n3_ := zM (below_step (by repeat (first | (with_reducible first | exact HB.out | apply zBa | apply zBn | apply zBd) | exact HB.out)) hb); clear HO_9; clear HO242; clear HB; have HO_9 := n0_; have HO242 := n1_; have HO245 := n2_; have HB := n3_; clear n0_ n1_ n2_ n3_; (try clear hb); (try clear hb2); (try clear hk); (try clear hi); (try clear ho0); obtain ⟨Ao35, co35, eo35⟩ := Kd.R_slice HO245.out; subst eo35) | (go_at_call 10; (with_reducible refine (spec_Fails.calls k3 _ _ l0 _ _ t243 t246 t247 _ ?side1 ?side2 ?side3 ?side4 A29.out).mono ?_); (case side1 => repeat (first | exact (Kd.C_below HR0.out HB.out) | (with_reducible first | refine zCa ?_ _ | refine zCn ?_ _ | refine zCd ?_))); (case side2 => exact HC0.out); (case side3 => repeat (first | exact (Kd.R_reads' HO245.out).2.2 | (with_reducible first | refine zCa ?_ _ | refine zCn ?_ _ | refine zCd ?_))); (case side4 => exact (Kd.R_reads' HO245.out).2.1); rintro e w36 ⟨v248, rfl, ho0, hb⟩; have n0_ := zM (Kd.S_elder' (by (with_reducible repeat (first | apply Kd.S_alloc | apply Kd.S_drewN | apply Kd.S_drew)); first | exact HO_9.out | (subst_vars; exact HO_9.out)) (Kd.R_base ho0) hb); have n1_ := zM (Kd.R_elder' (by (with_reducible repeat (first | apply zRa | apply zRn | apply zRd)); first | exact HO242.out | (subst_vars; exact HO242.out)) (Kd.R_base ho0) hb); have n2_ := zM (Kd.R_elder' (by (with_reducible repeat (first | apply zRa | apply zRn | apply zRd)); first | exact HO245.out | (subst_vars; exact HO245.out)) (Kd.R_base ho0) hb); have n3_ := zM (Kd.R_lower (Kd.R_new' (Kd.R_new' ho0 (Kd.R_lt (by (with_reducible repeat (first | apply zRa | apply zRn | apply zRd)); first | exact HO242.out | (subst_vars; exact HO242.out)))) (Kd.R_lt (by (with_reducible repeat (first | apply zRa | apply zRn | apply zRd)); first | exact HO245.out | (subst_vars; exact HO245.out)))) (below_size (by repeat (first | (with_reducible first | exact HB.out | apply zBa | apply zBn | apply zBd) | exact HB.out)))); have n4_ := zM (below_step (by repeat (first | (with_reducible first | exact HB.out | apply zBa | apply zBn | apply zBd) | exact HB.out)) hb); clear HO_9; clear HO242; clear HO245; clear HB; have HO_9 := n0_; have HO242 := n1_; have HO245 := n2_; have HO249 := n3_; have HB := n4_; clear n0_ n1_ n2_ n3_ n4_; (try clear hb); (try clear hb2); (try clear hk); (try clear hi); (try clear ho0)))
       (try simp only [Act.put, zS1, zS2, zS3])
       go_cut [75] (fun v75 wc => ∃ (kq : Nat) (x75_29 : Bool), v75 = .bool x75_29 ∧ Aside0 (spec_PassHints.j3 kq l0 l1 a2 x9_3 x11_3 t240 t243 t246 x75_29 = some (r1, r2, r3)) ∧ Aside0 (kq ≤ k3) ∧ Aside0 (Kd.S (Kd.slice 3 (Kd.int .i64)) 23 wc w.heap.size (fun k_ => some k_ ≠ ((.slice Ao33 t240.length co33) : Value).ownBlock ∧ some k_ ≠ ((.slice Ao35 t243.length co35) : Value).ownBlock ∧ some k_ ≠ (v248 : Value).ownBlock) (.slice Ao31 x9_3.length co31) x9_3) ∧ Aside0 (Kd.R (Kd.int .i64) 3 wc w.heap.size (fun k_ => some k_ ≠ ((.slice Ao35 t243.length co35) : Value).ownBlock ∧ some k_ ≠ (v248 : Value).ownBlock) (.slice Ao33 t240.length co33) t240) ∧ Aside0 (Kd.R (Kd.int .i64) 3 wc w.heap.size (fun k_ => some k_ ≠ ((.slice Ao33 t240.length co33) : Value).ownBlock ∧ some k_ ≠ (v248 : Value).ownBlock) (.slice Ao35 t243.length co35) t243) ∧ Aside0 (Kd.R (Kd.int .i64) 3 wc w.heap.size (fun k_ => some k_ ≠ ((.slice Ao33 t240.length co33) : Value).ownBlock ∧ some k_ ≠ ((.slice Ao35 t243.length co35) : Value).ownBlock) v248 t246) ∧ Aside0 (Below w.heap.size w wc))
       case first =>
        have H := HC30.out
        clear HC30
        by_cases c37 : (t246.length : Int) = 0
        case pos =>
         rw [if_pos c37] at H
         have c37b0 : ((t246.length : Int) == 0) = true := beq_iff_eq.mpr c37
         have c37b1 : ((t246.length : Int) != 0) = false := bne_eq_false_iff_eq.mpr c37
         clear c37
         (first | rw [c37b0] | (simp only [i64_w, i32_w]; rw [c37b0]) | skip)
         have H' := zM H
         clear H
         obtain ⟨Ao38, co38, eo38⟩ := Kd.R_slice HO249.out
         subst eo38
         go_wp2
         repeat (go_quiet (fail); try go_wp2)
         go_meet
         case rel => exact ⟨_, (true), (by first | rfl | (simp; done) | (simp [*]; done)), H', ⟨by have := HJ3.out; have := HK2.out; have := HK3.out; first | omega | exact Nat.le_refl _⟩, ⟨by (with_reducible repeat (first | apply Kd.S_alloc | apply Kd.S_drewN | apply Kd.S_drew)); first | exact Kd.S_mono HO_9.out (fun _ hk => ⟨hk.1.1.2, ⟨hk.1.2, hk.2⟩⟩) | (subst_vars; exact Kd.S_mono HO_9.out (fun _ hk => ⟨hk.1.1.2, ⟨hk.1.2, hk.2⟩⟩))⟩, ⟨by (with_reducible repeat (first | apply zRa | apply zRn | apply zRd)); first | exact Kd.R_mono HO242.out (fun _ hk => ⟨hk.1.2, hk.2⟩) | (subst_vars; exact Kd.R_mono HO242.out (fun _ hk => ⟨hk.1.2, hk.2⟩))⟩, ⟨by (with_reducible repeat (first | apply zRa | apply zRn | apply zRd)); first | exact Kd.R_mono HO245.out (fun _ hk => ⟨hk.1.2, hk.2⟩) | (subst_vars; exact Kd.R_mono HO245.out (fun _ hk => ⟨hk.1.2, hk.2⟩))⟩, ⟨by (with_reducible repeat (first | apply zRa | apply zRn | apply zRd)); first | exact Kd.R_mono HO249.out (fun _ hk => ⟨hk.1.2, hk.2⟩) | (subst_vars; exact Kd.R_mono HO249.out (fun _ hk => ⟨hk.1.2, hk.2⟩))⟩, ⟨by repeat (first | (with_reducible first | exact HB.out | apply zBa | apply zBn | apply zBd) | exact HB.out)⟩⟩
        rw [if_neg c37] at H
        have c37b0 : ((t246.length : Int) == 0) = false := beq_eq_false_iff_ne.mpr c37
        have c37b1 : ((t246.length : Int) != 0) = true := bne_iff_ne.mpr c37
        have c37b2 : ¬ (t246 = []) := fun h_ => c37 (by rw [h_]; rfl)
        (first | rw [c37b0] | (simp only [i64_w, i32_w]; rw [c37b0]) | skip)
        have H' := zM H
        clear H
        obtain ⟨Ao39, co39, eo39⟩ := Kd.R_slice HO249.out
        subst eo39
        go_wp2
        repeat (go_quiet (fail); try go_wp2)
        go_meet
        case rel => exact ⟨_, ((x11_3 == a2)), (by first | rfl | (simp; done) | (simp [*]; done)), H', ⟨by have := HJ3.out; have := HK2.out; have := HK3.out; first | omega | exact Nat.le_refl _⟩, ⟨by (with_reducible repeat (first | apply Kd.S_alloc | apply Kd.S_drewN | apply Kd.S_drew)); first | exact Kd.S_mono HO_9.out (fun _ hk => ⟨hk.1.1.2, ⟨hk.1.2, hk.2⟩⟩) | (subst_vars; exact Kd.S_mono HO_9.out (fun _ hk => ⟨hk.1.1.2, ⟨hk.1.2, hk.2⟩⟩))⟩, ⟨by (with_reducible repeat (first | apply zRa | apply zRn | apply zRd)); first | exact Kd.R_mono HO242.out (fun _ hk => ⟨hk.1.2, hk.2⟩) | (subst_vars; exact Kd.R_mono HO242.out (fun _ hk => ⟨hk.1.2, hk.2⟩))⟩, ⟨by (with_reducible repeat (first | apply zRa | apply zRn | apply zRd)); first | exact Kd.R_mono HO245.out (fun _ hk => ⟨hk.1.2, hk.2⟩) | (subst_vars; exact Kd.R_mono HO245.out (fun _ hk => ⟨hk.1.2, hk.2⟩))⟩, ⟨by (with_reducible repeat (first | apply zRa | apply zRn | apply zRd)); first | exact Kd.R_mono HO249.out (fun _ hk => ⟨hk.1.2, hk.2⟩) | (subst_vars; exact Kd.R_mono HO249.out (fun _ hk => ⟨hk.1.2, hk.2⟩))⟩, ⟨by repeat (first | (with_reducible first | exact HB.out | apply zBa | apply zBn | apply zBd) | exact HB.out)⟩⟩
       case rest =>
        clear HC30
        try clear c1
        try clear c2
        try clear p2
        try clear q2
        try clear hx2
        try clear c3
        try clear c6
        try clear p6
        try clear c8
        try clear c13
        try clear c18
        try clear c18b0
        try clear c19
        try clear c19b0
        try clear c20
        try clear c20b0
        try clear c20b1
        try clear c21
        try clear c21b0
        try clear c21b1
        try clear c22
        try clear c23
        try clear p23
        try clear q23
        try clear hx23
        try clear c37
        try clear c37b0
        try clear c37b1
        try clear c37b2
        try clear hx233_0
        try clear p2
        try clear p23
        try clear p233
        try clear p6
        try clear q2
        try clear q23
        try clear q233
        obtain ⟨kq, x75_29, rfl, HA, HJ29, HO_9, HO_12, HO_13, HO_14, HB⟩ := hcut
        cases kq with
        | zero => exact absurd HA.out (by simp [spec_PassHints.j3])
        | succ kj29 =>
         have H := HA.out
         clear HA
         simp only [spec_PassHints.j3] at H
         by_cases c40 : x75_29 = true
         case pos =>
          subst c40
          have H1 : (some (t243, x11_3, ((t246.length : Int) == 0))) = some (r1, r2, r3) := by rw [if_pos rfl] at H; exact H
          clear H
          have H := H1
          clear H1
          simp only [Option.some.injEq, Prod.mk.injEq] at H
          obtain ⟨rfl, rfl, rfl⟩ := H
          obtain ⟨Ao41, co41, eo41⟩ := Kd.R_slice HO_14.out
          subst eo41
          go_wp2
          repeat (go_quiet (fail); try go_wp2)
          go_ret3
          exact ⟨_, by first | rfl | (simp [errW_none, errW_some] <;> rfl) | (simp [*, errW_none, errW_some] <;> rfl), by (with_reducible repeat (first | apply zRa | apply zRn | apply zRd)); first | exact Kd.R_mono HO_13.out (fun _ hk => trivial) | (subst_vars; exact Kd.R_mono HO_13.out (fun _ hk => trivial)), by repeat (first | (with_reducible first | exact HB.out | apply zBa | apply zBn | apply zBd) | exact HB.out)⟩
         replace c40 := Bool.eq_false_iff.mpr c40
         subst c40
         have H1 : (spec_PassHints.l2 kj29 l0 l1 a2 x9_3 x11_3 t240 (([] : List (List Int))) 0) = some (r1, r2, r3) := by rw [if_neg (show ¬ (false = true) by decide)] at H; exact H
         clear H
         have H := H1
         clear H1
         obtain ⟨y250, hy250⟩ : ∃ y_ : List (List Int), y_ = (([] : List (List Int))) := ⟨_, rfl⟩
         replace H : (spec_PassHints.l2 kj29 l0 l1 a2 x9_3 x11_3 t240 y250 0) = some (r1, r2, r3) := by first | (rw [hy250]; with_reducible exact H) | (have H2_ := (Option.bind_some _ _).symm.trans H; rw [hy250]; with_reducible exact H2_) | (have H2_ := (Option.bind_some _ _).symm.trans H; with_reducible exact H2_) | with_reducible exact H | (rw [hy250]; exact H) | exact H
         have Ny250 := zM hy250
         clear hy250
         have H' := zM H
         clear H
         go_wp2_with (first | ((with_reducible refine gate_dst (N := 81) rfl ?_); refine Kd.S_lit (Kd.slice 3 (Kd.int .i64)) _ 23 ?hg (N := 81) ?hd (xs := ([] : List (List Int))) (inner := []) (ok := fun _ => True) (okp := fun _ => True) ?hr ?hp (fun _ hk => hk) trivial (Below.refl _ _) (Nat.le_refl _) (by simp) ?_; (case hd => rfl); (case hg => rfl); (case hr => first | (go_simp; done) | (go_simp; rfl)); (case hp => exact (Reps.none _ _)); intro v251 w42 ho43 hb hg_ hnew_; clear hg_ hnew_; (first | rw [← Ny250.out] at ho43 | (simp only [Int.reduceToNat] at ho43; rw [← Ny250.out] at ho43)); have n0_ := zM (Kd.S_elder' (by (with_reducible repeat (first | apply Kd.S_alloc | apply Kd.S_drewN | apply Kd.S_drew)); first | exact HO_9.out | (subst_vars; exact HO_9.out)) (Kd.S_base ho43) hb); have n1_ := zM (Kd.R_below (by (with_reducible repeat (first | apply zRa | apply zRn | apply zRd)); first | exact HO_12.out | (subst_vars; exact HO_12.out)) hb); have n2_ := zM (Kd.R_below (by (with_reducible repeat (first | apply zRa | apply zRn | apply zRd)); first | exact HO_13.out | (subst_vars; exact HO_13.out)) hb); have n3_ := zM (Kd.R_below (by (with_reducible repeat (first | apply zRa | apply zRn | apply zRd)); first | exact HO_14.out | (subst_vars; exact HO_14.out)) hb); have n4_ := zM (Kd.S_lower (Kd.S_new' (Kd.S_new' (Kd.S_new' (Kd.S_new' ho43 (Kd.S_lt (by (with_reducible repeat (first | apply Kd.S_alloc | apply Kd.S_drewN | apply Kd.S_drew)); first | exact HO_9.out | (subst_vars; exact HO_9.out)))) (Kd.R_lt (by (with_reducible repeat (first | apply zRa | apply zRn | apply zRd)); first | exact HO_12.out | (subst_vars; exact HO_12.out)))) (Kd.R_lt (by (with_reducible repeat (first | apply zRa | apply zRn | apply zRd)); first | exact HO_13.out | (subst_vars; exact HO_13.out)))) (Kd.R_lt (by (with_reducible repeat (first | apply zRa | apply zRn | apply zRd)); first | exact HO_14.out | (subst_vars; exact HO_14.out)))) (below_size (by repeat (first | (with_reducible first | exact HB.out | apply zBa | apply zBn | apply zBd) | exact HB.out)))); have n5_ := zM (below_step (by repeat (first | (with_reducible first | exact HB.out | apply zBa | apply zBn | apply zBd) | exact HB.out)) hb); clear HO_9; clear HO_12; clear HO_13; clear HO_14; clear HB; have HO_9 := n0_; have HO_12 := n1_; have HO_13 := n2_; have HO_14 := n3_; have HO252 := n4_; have HB := n5_; clear n0_ n1_ n2_ n3_ n4_ n5_; clear hb ho43))
         (try simp only [Act.put, zS1, zS2, zS3])
         go_loopg [16, 17] kj29 (fun kq v16 v17 w' => ∃ (x16_5 : List (List Int)) (x17_5 : Int), v17 = .int .i64 x17_5 ∧ Aside0 (spec_PassHints.l2 kq l0 l1 a2 x9_3 x11_3 t240 x16_5 x17_5 = some (r1, r2, r3)) ∧ Aside0 (kq ≤ kj29) ∧ Aside0 (Kd.S (Kd.slice 3 (Kd.int .i64)) 23 w' w.heap.size (fun k_ => some k_ ≠ ((.slice Ao33 t240.length co33) : Value).ownBlock ∧ some k_ ≠ (v16 : Value).ownBlock) (.slice Ao31 x9_3.length co31) x9_3) ∧ Aside0 (Kd.R (Kd.int .i64) 3 w' w.heap.size (fun _ => True) (.slice Ao33 t240.length co33) t240) ∧ Aside0 (Kd.S (Kd.slice 3 (Kd.int .i64)) 23 w' w.heap.size (fun k_ => some k_ ≠ ((.slice Ao31 x9_3.length co31) : Value).ownBlock ∧ some k_ ≠ ((.slice Ao33 t240.length co33) : Value).ownBlock) v16 x16_5) ∧ Aside0 (Below w.heap.size w w'))
         case atStart => exact ⟨(y250), (0), (by first | rfl | (simp; done) | (simp [*]; done)), H', ⟨Nat.le_refl _⟩, ⟨by (with_reducible repeat (first | apply Kd.S_alloc | apply Kd.S_drewN | apply Kd.S_drew)); first | exact Kd.S_mono HO_9.out (fun _ hk => ⟨hk.1.1, hk.2⟩) | (subst_vars; exact Kd.S_mono HO_9.out (fun _ hk => ⟨hk.1.1, hk.2⟩))⟩, ⟨by (with_reducible repeat (first | apply zRa | apply zRn | apply zRd)); first | exact Kd.R_mono HO_12.out (fun _ hk => trivial) | (subst_vars; exact Kd.R_mono HO_12.out (fun _ hk => trivial))⟩, ⟨by (with_reducible repeat (first | apply Kd.S_alloc | apply Kd.S_drewN | apply Kd.S_drew)); first | exact Kd.S_mono HO252.out (fun _ hk => ⟨hk.1.1.1.2, hk.1.1.2⟩) | (subst_vars; exact Kd.S_mono HO252.out (fun _ hk => ⟨hk.1.1.1.2, hk.1.1.2⟩))⟩, ⟨by repeat (first | (with_reducible first | exact HB.out | apply zBa | apply zBn | apply zBd) | exact HB.out)⟩⟩
         case round =>
          clear H'
          try clear c1
          try clear c2
          try clear p2
          try clear q2
          try clear hx2
          try clear c3
          try clear c4
          try clear c6
          try clear p6
          try clear c8
          try clear c13
          try clear c18
          try clear c18b0
          try clear c19
          try clear c19b0
          try clear c20
          try clear c20b0
          try clear c20b1
          try clear c21
          try clear c21b0
          try clear c21b1
          try clear c22
          try clear c23
          try clear p23
          try clear q23
          try clear hx23
          try clear c37
          try clear c37b0
          try clear c37b1
          try clear c37b2
          try clear c40
          try clear hx233_0
          try clear p2
          try clear p23
          try clear p233
          try clear p6
          try clear q2
          try clear q23
          try clear q233
          obtain ⟨x16_5, x17_5, rfl, HA, HK5, HO_9, HO_12, HO_16, HB⟩ := hrel
          cases gk with
          | zero => exact absurd HA.out (by simp [spec_PassHints.l2])
          | succ k5 =>
           have H := HA.out
           clear HA
           simp only [spec_PassHints.l2] at H
           by_cases c44 : x17_5 < (l0.length : Int)
           case neg =>
            rw [if_neg c44] at H
            have c44b0 : decide (x17_5 < (l0.length : Int)) = false := decide_eq_false c44
            clear c44
            have H' := zM H
            clear H
            go_wp2
            repeat (go_quiet (fail); try go_wp2)
            go_roundg k5
            case measure => have := HJ3.out; have := HK2.out; have := HK3.out; have := HJ29.out; have := HK5.out; omega
            case rel => exact ⟨(x16_5), (wrap64 (x11_3 + 1)), (by first | rfl | (simp; done) | (simp [*]; done)), H', ⟨by have := HJ3.out; have := HK2.out; have := HK3.out; have := HJ29.out; have := HK5.out; omega⟩, ⟨by (with_reducible repeat (first | apply Kd.S_alloc | apply Kd.S_drewN | apply Kd.S_drew)); first | exact Kd.S_mono HO_16.out (fun _ hk => trivial) | (subst_vars; exact Kd.S_mono HO_16.out (fun _ hk => trivial))⟩, ⟨by repeat (first | (with_reducible first | exact HB.out | apply zBa | apply zBn | apply zBd) | exact HB.out)⟩⟩
           rw [if_pos c44] at H
           have c44b0 : decide (x17_5 < (l0.length : Int)) = true := zE c44
           clear c44
           obtain ⟨y253, hy253⟩ : ∃ y_ : List Int, y_ = (([] : List Int)) := ⟨_, rfl⟩
           replace H : (spec_PassHints.l3 k5 l0 l1 a2 x9_3 x11_3 t240 x16_5 x17_5 y253 0) = some (r1, r2, r3) := by first | (rw [hy253]; with_reducible exact H) | (have H2_ := (Option.bind_some _ _).symm.trans H; rw [hy253]; with_reducible exact H2_) | (have H2_ := (Option.bind_some _ _).symm.trans H; with_reducible exact H2_) | with_reducible exact H | (rw [hy253]; exact H) | exact H
           have Ny253 := zM hy253
           clear hy253
           have H' := zM H
           clear H
           go_wp2_with (first | ((with_reducible refine gate_dst (N := 88) rfl ?_); refine Kd.R_lit (Kd.int .i64) _ 3 ?hg (N := 88) ?hd (xs := ([] : List Int)) (inner := []) (ok := fun _ => True) (okp := fun _ => True) ?hr ?hp (fun _ hk => hk) trivial (Below.refl _ _) (Nat.le_refl _) (by simp) ?_; (case hd => rfl); (case hg => rfl); (case hr => first | (go_simp; done) | (go_simp; rfl)); (case hp => exact (Reps.none _ _)); intro v254 w45 ho46 hb hg_ hnew_; clear hg_ hnew_; (first | rw [← Ny253.out] at ho46 | (simp only [Int.reduceToNat] at ho46; rw [← Ny253.out] at ho46)); have n0_ := zM (Kd.S_elder' (by (with_reducible repeat (first | apply Kd.S_alloc | apply Kd.S_drewN | apply Kd.S_drew)); first | exact HO_9.out | (subst_vars; exact HO_9.out)) (Kd.R_base ho46) hb); have n1_ := zM (Kd.R_elder' (by (with_reducible repeat (first | apply zRa | apply zRn | apply zRd)); first | exact HO_12.out | (subst_vars; exact HO_12.out)) (Kd.R_base ho46) hb); have n2_ := zM (Kd.S_elder' (by (with_reducible repeat (first | apply Kd.S_alloc | apply Kd.S_drewN | apply Kd.S_drew)); first | exact HO_16.out | (subst_vars; exact HO_16.out)) (Kd.R_base ho46) hb); have n3_ := zM (Kd.R_lower (Kd.R_new' ho46 (Kd.R_lt (by (with_reducible repeat (first | apply zRa | apply zRn | apply zRd)); first | exact HO_12.out | (subst_vars; exact HO_12.out)))) (below_size (by repeat (first | (with_reducible first | exact HB.out | apply zBa | apply zBn | apply zBd) | exact HB.out)))); have n4_ := zM (below_step (by repeat (first | (with_reducible first | exact HB.out | apply zBa | apply zBn | apply zBd) | exact HB.out)) hb); clear HO_9; clear HO_12; clear HO_16; clear HB; have HO_9 := n0_; have HO_12 := n1_; have HO_16 := n2_; have HO255 := n3_; have HB := n4_; clear n0_ n1_ n2_ n3_ n4_; clear hb ho46))
           (try simp only [Act.put, zS1, zS2, zS3])
           go_loopg [18, 19] k5 (fun kq v18 v19 w' => ∃ (x18_6 : List Int) (x19_6 : Int), v19 = .int .i64 x19_6 ∧ Aside0 (spec_PassHints.l3 kq l0 l1 a2 x9_3 x11_3 t240 x16_5 x17_5 x18_6 x19_6 = some (r1, r2, r3)) ∧ Aside0 (kq ≤ k5) ∧ Aside0 (Kd.S (Kd.slice 3 (Kd.int .i64)) 23 w' w.heap.size (fun k_ => some k_ ≠ ((.slice Ao33 t240.length co33) : Value).ownBlock ∧ some k_ ≠ (u16 : Value).ownBlock ∧ some k_ ≠ (v18 : Value).ownBlock) (.slice Ao31 x9_3.length co31) x9_3) ∧ Aside0 (Kd.R (Kd.int .i64) 3 w' w.heap.size (fun k_ => some k_ ≠ (v18 : Value).ownBlock) (.slice Ao33 t240.length co33) t240) ∧ Aside0 (Kd.S (Kd.slice 3 (Kd.int .i64)) 23 w' w.heap.size (fun k_ => some k_ ≠ ((.slice Ao31 x9_3.length co31) : Value).ownBlock ∧ some k_ ≠ ((.slice Ao33 t240.length co33) : Value).ownBlock ∧ some k_ ≠ (v18 : Value).ownBlock) u16 x16_5) ∧ Aside0 (Kd.R (Kd.int .i64) 3 w' w.heap.size (fun k_ => some k_ ≠ ((.slice Ao33 t240.length co33) : Value).ownBlock) v18 x18_6) ∧ Aside0 (Below w.heap.size w w'))
           case atStart => exact ⟨(y253), (0), (by first | rfl | (simp; done) | (simp [*]; done)), H', ⟨Nat.le_refl _⟩, ⟨by (with_reducible repeat (first | apply Kd.S_alloc | apply Kd.S_drewN | apply Kd.S_drew)); first | exact Kd.S_mono HO_9.out (fun _ hk => ⟨hk.1.1, ⟨hk.1.2, hk.2⟩⟩) | (subst_vars; exact Kd.S_mono HO_9.out (fun _ hk => ⟨hk.1.1, ⟨hk.1.2, hk.2⟩⟩))⟩, ⟨by (with_reducible repeat (first | apply zRa | apply zRn | apply zRd)); first | exact Kd.R_mono HO_12.out (fun _ hk => hk.2) | (subst_vars; exact Kd.R_mono HO_12.out (fun _ hk => hk.2))⟩, ⟨by (with_reducible repeat (first | apply Kd.S_alloc | apply Kd.S_drewN | apply Kd.S_drew)); first | exact Kd.S_mono HO_16.out (fun _ hk => ⟨hk.1.1, ⟨hk.1.2, hk.2⟩⟩) | (subst_vars; exact Kd.S_mono HO_16.out (fun _ hk => ⟨hk.1.1, ⟨hk.1.2, hk.2⟩⟩))⟩, ⟨by (with_reducible repeat (first | apply zRa | apply zRn | apply zRd)); first | exact Kd.R_mono HO255.out (fun _ hk => hk.2) | (subst_vars; exact Kd.R_mono HO255.out (fun _ hk => hk.2))⟩, ⟨by repeat (first | (with_reducible first | exact HB.out | apply zBa | apply zBn | apply zBd) | exact HB.out)⟩⟩
           case round =>
            clear H'
            try clear c1
            try clear c2
            try clear p2
            try clear q2
            try clear hx2
            try clear c3
            try clear c4
            try clear c6
            try clear p6
            try clear c8
            try clear c13
            try clear c18
            try clear c18b0
            try clear c19
            try clear c19b0
            try clear c20
            try clear c20b0
            try clear c20b1
            try clear c21
            try clear c21b0
            try clear c21b1
            try clear c22
            try clear c23
            try clear p23
            try clear q23
            try clear hx23
            try clear c37
            try clear c37b0
            try clear c37b1
            try clear c37b2
            try clear c40
            try clear c44
            try clear c44b0
            try clear hx233_0
            try clear p2
            try clear p23
            try clear p233
            try clear p6
            try clear q2
            try clear q23
            try clear q233
            obtain ⟨x18_6, x19_6, rfl, HA, HK6, HO_9, HO_12, HO_16, HO_18, HB⟩ := hrel
            cases gk with
            | zero => exact absurd HA.out (by simp [spec_PassHints.l3])
            | succ k6 =>
             have H := HA.out
             clear HA
             simp only [spec_PassHints.l3] at H
             by_cases c47 : 0 ≤ x17_5
             case neg =>
              rw [if_neg c47] at H
              exact absurd H (by simp)
             rw [if_pos c47] at H
             have c47b0 : decide (0 ≤ x17_5) = true := zE c47
             clear c47
             by_cases c48 : x17_5 < (l0.length : Int)
             case neg =>
              rw [if_neg c48] at H
              exact absurd H (by simp)
             rw [if_pos c48] at H
             have c48b0 : decide (x17_5 < (l0.length : Int)) = true := zE c48
             clear c48
             by_cases c49 : x19_6 < ((rd_L1 l0 x17_5).length : Int)
             case neg =>
              rw [if_neg c49] at H
              have c49b0 : decide (x19_6 < ((rd_L1 l0 x17_5).length : Int)) = false := decide_eq_false c49
              clear c49
              by_cases c67 : x16_5.length < 5864062014805
              case neg =>
               rw [if_neg c67] at H
               exact absurd H (by simp)
              rw [if_pos c67] at H
              have LMc67 := zM c67
              clear c67
              obtain ⟨y257, hy257⟩ : ∃ y_ : List (List Int), y_ = (x16_5 ++ [x18_6]) := ⟨_, rfl⟩
              replace H : (spec_PassHints.l2 k6 l0 l1 a2 x9_3 x11_3 t240 y257 (wrap64 (x17_5 + 1))) = some (r1, r2, r3) := by first | (rw [hy257]; with_reducible exact H) | (have H2_ := (Option.bind_some _ _).symm.trans H; rw [hy257]; with_reducible exact H2_) | (have H2_ := (Option.bind_some _ _).symm.trans H; with_reducible exact H2_) | with_reducible exact H | (rw [hy257]; exact H) | exact H
              have Ny257 := zM hy257
              clear hy257
              have H' := zM H
              clear H
              have p256 : 0 ≤ (x17_5 : Int) := zT (by assumption)
              have q256 : x17_5 < (l0.length : Int) := zT (by assumption)
              obtain ⟨ad256, A256_0, c256_0, e256, hx256_0, hl256_0, hi256_0⟩ := at_L1 HR0.out x17_5 p256 q256
              cases e256
              replace hx256_0 := (HB.out.cell (zW w _ hx256_0)).trans hx256_0
              have HR256_0 := zM hi256_0
              have HC256_0 := zM hl256_0
              clear hi256_0 hl256_0
              replace p256 := eq_true p256
              replace q256 := eq_true q256
              obtain ⟨Ao69, co69, eo69⟩ := Kd.R_slice HO_18.out
              subst eo69
              go_wp2_with (first | ((with_reducible refine gate_builtin (b := .append) (xs := #[.tmp 145, .tmp 147]) rfl ?_); at_builtin; refine Kd.S_append (Kd.slice 3 (Kd.int .i64)) (w0 := w) w.heap.size rfl (.tmp 145) (.tmp 147) 22 23 (.slice none 0 0) 24 rfl Try.underlying22 info23 rfl (by decide) (by omega) u16 x16_5 x18_6 [.slice Ao69 x18_6.length co69] (fun k_ => some k_ ≠ (.slice Ao31 x9_3.length co31 : Value).ownBlock ∧ some k_ ≠ (.slice Ao33 t240.length co33 : Value).ownBlock) (fun k_ => some k_ = (.slice Ao69 x18_6.length co69 : Value).ownBlock) rfl rfl ?aP (fun k_ hk_ => ((Kd.R_mono (ok' := fun k_ => ((fun k_ => some k_ ≠ (.slice Ao31 x9_3.length co31 : Value).ownBlock ∧ some k_ ≠ (.slice Ao33 t240.length co33 : Value).ownBlock)) k_ ∧ some k_ ≠ (u16 : Value).ownBlock) (Kd.R_apart' (Kd.R_apart' (HO_18.out) (Kd.S_typed HO_9.out) (by decide)) (Kd.S_typed HO_16.out) (by decide)) (fun k_ hk => ⟨⟨hk.1.2, hk.1.1⟩, hk.2⟩))).1 k_ hk_.symm) ?aF ?aO ?aB ?aS ?aL ?_; (case aP => exact Kd.M_row (Kd.R_mono (Kd.R_tight rfl (Kd.R_mono (ok' := fun k_ => ((fun k_ => some k_ ≠ (.slice Ao31 x9_3.length co31 : Value).ownBlock ∧ some k_ ≠ (.slice Ao33 t240.length co33 : Value).ownBlock)) k_ ∧ some k_ ≠ (u16 : Value).ownBlock) (Kd.R_apart' (Kd.R_apart' (HO_18.out) (Kd.S_typed HO_9.out) (by decide)) (Kd.S_typed HO_16.out) (by decide)) (fun k_ hk => ⟨⟨hk.1.2, hk.1.1⟩, hk.2⟩))) (fun _ h_ => h_))); (case aB => exact (by repeat (first | (with_reducible first | exact HB.out | apply zBa | apply zBn | apply zBd) | exact HB.out))); (case aF => exact (fun k_ hk => ⟨Kd.fresh' (Kd.S_lt (by (with_reducible repeat (first | apply Kd.S_alloc | apply Kd.S_drewN | apply Kd.S_drew)); first | exact HO_9.out | (subst_vars; exact HO_9.out))) k_ hk, Kd.fresh' (Kd.R_lt (by (with_reducible repeat (first | apply zRa | apply zRn | apply zRd)); first | exact HO_12.out | (subst_vars; exact HO_12.out))) k_ hk⟩)); (case aO => exact (by (with_reducible repeat (first | apply Kd.S_alloc | apply Kd.S_drewN | apply Kd.S_drew)); exact Kd.S_mono HO_16.out (fun k_ hk => ⟨⟨hk.1, hk.2.1⟩, fun e_ => hk.2.2 e_⟩))); (case aS => exact (below_size (by repeat (first | (with_reducible first | exact HB.out | apply zBa | apply zBn | apply zBd) | exact HB.out)))); (case aL => have := LMc67.out; omega); intro v258 w68 ho hb hg hat; (first | rw [← Ny257.out] at ho | (simp only [Int.reduceToNat] at ho; rw [← Ny257.out] at ho)); have n0_ := zM (Kd.S_after (ok := (fun k_ => some k_ ≠ (.slice Ao33 t240.length co33 : Value).ownBlock ∧ some k_ ≠ (.slice Ao69 x18_6.length co69 : Value).ownBlock)) (by (with_reducible repeat (first | apply Kd.S_alloc | apply Kd.S_drewN | apply Kd.S_drew)); first | exact Kd.S_mono HO_9.out (fun _ hk => ⟨⟨hk.1, hk.2.2⟩, hk.2.1⟩) | (subst_vars; exact Kd.S_mono HO_9.out (fun _ hk => ⟨⟨hk.1, hk.2.2⟩, hk.2.1⟩))) hg hat); have n1_ := zM (Kd.R_over' (by (with_reducible repeat (first | apply zRa | apply zRn | apply zRd)); first | exact HO_12.out | (subst_vars; exact HO_12.out)) (Kd.S_typed (by (with_reducible repeat (first | apply Kd.S_alloc | apply Kd.S_drewN | apply Kd.S_drew)); first | exact HO_16.out | (subst_vars; exact HO_16.out))) (by decide) hg); have n2_ := zM (hb); have n3_ := zM (ho); clear HO_9; clear HO_12; clear HB; clear HO_16; clear HO_18; have HO_9 := n0_; have HO_12 := n1_; have HB := n2_; have HO259 := n3_; clear n0_ n1_ n2_ n3_; clear ho hb hg hat))
              go_roundg k6
              case measure => have := HJ3.out; have := HK2.out; have := HK3.out; have := HJ29.out; have := HK5.out; have := HK6.out; omega
              case rel => exact ⟨(y257), (wrap64 (x17_5 + 1)), (by first | rfl | (simp; done) | (simp [*]; done)), H', ⟨by have := HJ3.out; have := HK2.out; have := HK3.out; have := HJ29.out; have := HK5.out; have := HK6.out; omega⟩, ⟨by (with_reducible repeat (first | apply Kd.S_alloc | apply Kd.S_drewN | apply Kd.S_drew)); first | exact Kd.S_mono HO_9.out (fun _ hk => ⟨hk.1.1, hk.2⟩) | (subst_vars; exact Kd.S_mono HO_9.out (fun _ hk => ⟨hk.1.1, hk.2⟩))⟩, ⟨by (with_reducible repeat (first | apply zRa | apply zRn | apply zRd)); first | exact Kd.R_mono HO_12.out (fun _ hk => trivial) | (subst_vars; exact Kd.R_mono HO_12.out (fun _ hk => trivial))⟩, ⟨by (with_reducible repeat (first | apply Kd.S_alloc | apply Kd.S_drewN | apply Kd.S_drew)); first | exact HO259.out | (subst_vars; exact HO259.out)⟩, ⟨by repeat (first | (with_reducible first | exact HB.out | apply zBa | apply zBn | apply zBd) | exact HB.out)⟩⟩
             rw [if_pos c49] at H
             have c49b0 : decide (x19_6 < ((rd_L1 l0 x17_5).length : Int)) = true := zE c49
             clear c49
             have H' := zM H
             clear H
             have p256 : 0 ≤ (x17_5 : Int) := zT (by assumption)
             have q256 : x17_5 < (l0.length : Int) := zT (by assumption)
             obtain ⟨ad256, A256_0, c256_0, e256, hx256_0, hl256_0, hi256_0⟩ := at_L1 HR0.out x17_5 p256 q256
             cases e256
             replace hx256_0 := (HB.out.cell (zW w _ hx256_0)).trans hx256_0
             have HR256_0 := zM hi256_0
             have HC256_0 := zM hl256_0
             clear hi256_0 hl256_0
             replace p256 := eq_true p256
             replace q256 := eq_true q256
             go_wp2
             repeat (go_quiet (fail); try go_wp2)
             (try simp only [Act.put, zS1, zS2, zS3])
             go_loopg [20, 21, 22] k6 (fun kq v20 v21 v22 w' => ∃ (x20_7 : Int) (x21_7 : Bool) (x22_7 : Int), v20 = .int .i64 x20_7 ∧ v21 = .bool x21_7 ∧ v22 = .int .i64 x22_7 ∧ Aside0 (spec_PassHints.l4 kq l0 l1 a2 x9_3 x11_3 t240 x16_5 x17_5 x18_6 x19_6 x20_7 x21_7 x22_7 = some (r1, r2, r3)) ∧ Aside0 (kq ≤ k6) ∧ Aside0 (Kd.S (Kd.slice 3 (Kd.int .i64)) 23 w' w.heap.size (fun k_ => some k_ ≠ ((.slice Ao33 t240.length co33) : Value).ownBlock ∧ some k_ ≠ (u16 : Value).ownBlock ∧ some k_ ≠ (u18 : Value).ownBlock) (.slice Ao31 x9_3.length co31) x9_3) ∧ Aside0 (Kd.R (Kd.int .i64) 3 w' w.heap.size (fun k_ => some k_ ≠ (u18 : Value).ownBlock) (.slice Ao33 t240.length co33) t240) ∧ Aside0 (Kd.S (Kd.slice 3 (Kd.int .i64)) 23 w' w.heap.size (fun k_ => some k_ ≠ ((.slice Ao31 x9_3.length co31) : Value).ownBlock ∧ some k_ ≠ ((.slice Ao33 t240.length co33) : Value).ownBlock ∧ some k_ ≠ (u18 : Value).ownBlock) u16 x16_5) ∧ Aside0 (Kd.R (Kd.int .i64) 3 w' w.heap.size (fun k_ => some k_ ≠ ((.slice Ao33 t240.length co33) : Value).ownBlock) u18 x18_6) ∧ Aside0 (Below w.heap.size w w'))
             case atStart => exact ⟨(1000), (false), (0), (by first | rfl | (simp; done) | (simp [*]; done)), (by first | rfl | (simp; done) | (simp [*]; done)), (by first | rfl | (simp; done) | (simp [*]; done)), H', ⟨Nat.le_refl _⟩, ⟨by (with_reducible repeat (first | apply Kd.S_alloc | apply Kd.S_drewN | apply Kd.S_drew)); first | exact HO_9.out | (subst_vars; exact HO_9.out)⟩, ⟨by (with_reducible repeat (first | apply zRa | apply zRn | apply zRd)); first | exact HO_12.out | (subst_vars; exact HO_12.out)⟩, ⟨by (with_reducible repeat (first | apply Kd.S_alloc | apply Kd.S_drewN | apply Kd.S_drew)); first | exact HO_16.out | (subst_vars; exact HO_16.out)⟩, ⟨by (with_reducible repeat (first | apply zRa | apply zRn | apply zRd)); first | exact HO_18.out | (subst_vars; exact HO_18.out)⟩, ⟨by repeat (first | (with_reducible first | exact HB.out | apply zBa | apply zBn | apply zBd) | exact HB.out)⟩⟩
             case round =>
              clear H'
              try clear c1
              try clear c2
              try clear p2
              try clear q2
              try clear hx2
              try clear c3
              try clear c4
              try clear c6
              try clear p6
              try clear c8
              try clear c13
              try clear c18
              try clear c18b0
              try clear c19
              try clear c19b0
              try clear c20
              try clear c20b0
              try clear c20b1
              try clear c21
              try clear c21b0
              try clear c21b1
              try clear c22
              try clear c23
              try clear p23
              try clear q23
              try clear hx23
              try clear c25
              try clear p25
              try clear q25
              try clear hx25
              try clear c37
              try clear c37b0
              try clear c37b1
              try clear c37b2
              try clear c40
              try clear c44
              try clear c44b0
              try clear c47
              try clear c47b0
              try clear c48
              try clear c48b0
              try clear c49
              try clear c49b0
              try clear hx233_0
              try clear hx256_0
              try clear p2
              try clear p23
              try clear p233
              try clear p256
              try clear p6
              try clear q2
              try clear q23
              try clear q233
              try clear q256
              obtain ⟨x20_7, x21_7, x22_7, rfl, rfl, rfl, HA, HK7, HO_9, HO_12, HO_16, HO_18, HB⟩ := hrel
              cases gk with
              | zero => exact absurd HA.out (by simp [spec_PassHints.l4])
              | succ k7 =>
               have H := HA.out
               clear HA
               simp only [spec_PassHints.l4] at H
               by_cases c50 : 0 ≤ x17_5
               case neg =>
                rw [if_neg c50] at H
                exact absurd H (by simp)
               rw [if_pos c50] at H
               have c50b0 : decide (0 ≤ x17_5) = true := zE c50
               clear c50
               by_cases c51 : x17_5 < (l0.length : Int)
               case neg =>
                rw [if_neg c51] at H
                exact absurd H (by simp)
               rw [if_pos c51] at H
               have c51b0 : decide (x17_5 < (l0.length : Int)) = true := zE c51
               clear c51
               by_cases c52 : x22_7 < ((rd_L1 l0 x17_5).length : Int)
               case neg =>
                rw [if_neg c52] at H
                have c52b0 : decide (x22_7 < ((rd_L1 l0 x17_5).length : Int)) = false := decide_eq_false c52
                clear c52
                by_cases c62 : x21_7 = true
                case neg =>
                 replace c62 := Bool.eq_false_iff.mpr c62
                 subst c62
                 have H1 : (if x18_6.length < 17592186044416 then (spec_PassHints.l3 k7 l0 l1 a2 x9_3 x11_3 t240 x16_5 x17_5 (x18_6 ++ [x20_7]) (wrap64 (x19_6 + 1))) else (none)) = some (r1, r2, r3) := by rw [if_neg (show ¬ (false = true) by decide)] at H; exact H
                 clear H
                 have H := H1
                 clear H1
                 by_cases c65 : x18_6.length < 17592186044416
                 case neg =>
                  rw [if_neg c65] at H
                  exact absurd H (by simp)
                 rw [if_pos c65] at H
                 have LMc65 := zM c65
                 clear c65
                 obtain ⟨y264, hy264⟩ : ∃ y_ : List Int, y_ = (x18_6 ++ [x20_7]) := ⟨_, rfl⟩
                 replace H : (spec_PassHints.l3 k7 l0 l1 a2 x9_3 x11_3 t240 x16_5 x17_5 y264 (wrap64 (x19_6 + 1))) = some (r1, r2, r3) := by first | (rw [hy264]; with_reducible exact H) | (have H2_ := (Option.bind_some _ _).symm.trans H; rw [hy264]; with_reducible exact H2_) | (have H2_ := (Option.bind_some _ _).symm.trans H; with_reducible exact H2_) | with_reducible exact H | (rw [hy264]; exact H) | exact H
                 have Ny264 := zM hy264
                 clear hy264
                 have H' := zM H
                 clear H
                 have p260 : 0 ≤ (x17_5 : Int) := zT (by assumption)
                 have q260 : x17_5 < (l0.length : Int) := zT (by assumption)
                 obtain ⟨ad260, A260_0, c260_0, e260, hx260_0, hl260_0, hi260_0⟩ := at_L1 HR0.out x17_5 p260 q260
                 obtain rfl : ad256 = ad260 := (by injection e260)
                 replace hx260_0 := (HB.out.cell (zW w _ hx260_0)).trans hx260_0
                 have HR260_0 := zM hi260_0
                 have HC260_0 := zM hl260_0
                 clear hi260_0 hl260_0
                 replace p260 := eq_true p260
                 replace q260 := eq_true q260
                 go_wp2_with (first | ((with_reducible refine gate_builtin (b := .append) (xs := #[.tmp 141, .tmp 143]) rfl ?_); at_builtin; refine Kd.R_append (Kd.int .i64) (w0 := w) w.heap.size rfl (.tmp 141) (.tmp 143) 23 3 (.int .i64 0) 8 rfl Try.underlying23 info3 rfl (by decide) (by omega) u18 x18_6 x20_7 [.int .i64 x20_7] (fun k_ => some k_ ≠ (.slice Ao33 t240.length co33 : Value).ownBlock) (fun _ => False) rfl rfl ?aP (fun _ hk => hk.elim) ?aF ?aO ?aB ?aS ?aL ?_; (case aP => exact rfl); (case aB => exact (by repeat (first | (with_reducible first | exact HB.out | apply zBa | apply zBn | apply zBd) | exact HB.out))); (case aF => exact (fun k_ hk => Kd.fresh' (Kd.R_lt (by (with_reducible repeat (first | apply zRa | apply zRn | apply zRd)); first | exact HO_12.out | (subst_vars; exact HO_12.out))) k_ hk)); (case aO => exact (by (with_reducible repeat (first | apply zRa | apply zRn | apply zRd)); first | exact HO_18.out | (subst_vars; exact HO_18.out))); (case aS => exact (below_size (by repeat (first | (with_reducible first | exact HB.out | apply zBa | apply zBn | apply zBd) | exact HB.out)))); (case aL => have := LMc65.out; omega); intro v265 w66 ho hb hg hat; (first | rw [← Ny264.out] at ho | (simp only [Int.reduceToNat] at ho; rw [← Ny264.out] at ho)); have n0_ := zM (Kd.S_after (ok := (fun k_ => some k_ ≠ (.slice Ao33 t240.length co33 : Value).ownBlock ∧ some k_ ≠ (u16 : Value).ownBlock)) (by (with_reducible repeat (first | apply Kd.S_alloc | apply Kd.S_drewN | apply Kd.S_drew)); first | exact Kd.S_mono HO_9.out (fun _ hk => ⟨⟨hk.1, hk.2.1⟩, hk.2.2⟩) | (subst_vars; exact Kd.S_mono HO_9.out (fun _ hk => ⟨⟨hk.1, hk.2.1⟩, hk.2.2⟩))) hg hat); have n1_ := zM (Kd.R_after (ok := (fun _ => True)) (by (with_reducible repeat (first | apply zRa | apply zRn | apply zRd)); first | exact Kd.R_mono HO_12.out (fun _ hk => ⟨trivial, hk⟩) | (subst_vars; exact Kd.R_mono HO_12.out (fun _ hk => ⟨trivial, hk⟩))) hg hat); have n2_ := zM (Kd.S_after (ok := (fun k_ => some k_ ≠ (.slice Ao31 x9_3.length co31 : Value).ownBlock ∧ some k_ ≠ (.slice Ao33 t240.length co33 : Value).ownBlock)) (by (with_reducible repeat (first | apply Kd.S_alloc | apply Kd.S_drewN | apply Kd.S_drew)); first | exact Kd.S_mono HO_16.out (fun _ hk => ⟨⟨hk.1, hk.2.1⟩, hk.2.2⟩) | (subst_vars; exact Kd.S_mono HO_16.out (fun _ hk => ⟨⟨hk.1, hk.2.1⟩, hk.2.2⟩))) hg hat); have n3_ := zM (hb); have n4_ := zM (ho); clear HO_9; clear HO_12; clear HO_16; clear HB; clear HO_18; have HO_9 := n0_; have HO_12 := n1_; have HO_16 := n2_; have HB := n3_; have HO266 := n4_; clear n0_ n1_ n2_ n3_ n4_; clear ho hb hg hat))
                 go_roundg k7
                 case measure => have := HJ3.out; have := HK2.out; have := HK3.out; have := HJ29.out; have := HK5.out; have := HK6.out; have := HK7.out; omega
                 case rel => exact ⟨(y264), (wrap64 (x19_6 + 1)), (by first | rfl | (simp; done) | (simp [*]; done)), H', ⟨by have := HJ3.out; have := HK2.out; have := HK3.out; have := HJ29.out; have := HK5.out; have := HK6.out; have := HK7.out; omega⟩, ⟨by (with_reducible repeat (first | apply Kd.S_alloc | apply Kd.S_drewN | apply Kd.S_drew)); first | exact Kd.S_mono HO_9.out (fun _ hk => ⟨hk.1.1, ⟨hk.1.2, hk.2⟩⟩) | (subst_vars; exact Kd.S_mono HO_9.out (fun _ hk => ⟨hk.1.1, ⟨hk.1.2, hk.2⟩⟩))⟩, ⟨by (with_reducible repeat (first | apply zRa | apply zRn | apply zRd)); first | exact Kd.R_mono HO_12.out (fun _ hk => hk.2) | (subst_vars; exact Kd.R_mono HO_12.out (fun _ hk => hk.2))⟩, ⟨by (with_reducible repeat (first | apply Kd.S_alloc | apply Kd.S_drewN | apply Kd.S_drew)); first | exact Kd.S_mono HO_16.out (fun _ hk => ⟨hk.1.1, ⟨hk.1.2, hk.2⟩⟩) | (subst_vars; exact Kd.S_mono HO_16.out (fun _ hk => ⟨hk.1.1, ⟨hk.1.2, hk.2⟩⟩))⟩, ⟨by (with_reducible repeat (first | apply zRa | apply zRn | apply zRd)); first | exact HO266.out | (subst_vars; exact HO266.out)⟩, ⟨by repeat (first | (with_reducible first | exact HB.out | apply zBa | apply zBn | apply zBd) | exact HB.out)⟩⟩
                subst c62
                have H1 : (if x18_6.length < 17592186044416 then (spec_PassHints.l3 k7 l0 l1 a2 x9_3 x11_3 t240 x16_5 x17_5 (x18_6 ++ [wrap64 (-x20_7)]) (wrap64 (x19_6 + 1))) else (none)) = some (r1, r2, r3) := by rw [if_pos rfl] at H; exact H
                clear H
                have H := H1
                clear H1
                by_cases c63 : x18_6.length < 17592186044416
                case neg =>
                 rw [if_neg c63] at H
                 exact absurd H (by simp)
                rw [if_pos c63] at H
                have LMc63 := zM c63
                clear c63
                obtain ⟨y261, hy261⟩ : ∃ y_ : List Int, y_ = (x18_6 ++ [wrap64 (-x20_7)]) := ⟨_, rfl⟩
                replace H : (spec_PassHints.l3 k7 l0 l1 a2 x9_3 x11_3 t240 x16_5 x17_5 y261 (wrap64 (x19_6 + 1))) = some (r1, r2, r3) := by first | (rw [hy261]; with_reducible exact H) | (have H2_ := (Option.bind_some _ _).symm.trans H; rw [hy261]; with_reducible exact H2_) | (have H2_ := (Option.bind_some _ _).symm.trans H; with_reducible exact H2_) | with_reducible exact H | (rw [hy261]; exact H) | exact H
                have Ny261 := zM hy261
                clear hy261
                have H' := zM H
                clear H
                have p260 : 0 ≤ (x17_5 : Int) := zT (by assumption)
                have q260 : x17_5 < (l0.length : Int) := zT (by assumption)
                obtain ⟨ad260, A260_0, c260_0, e260, hx260_0, hl260_0, hi260_0⟩ := at_L1 HR0.out x17_5 p260 q260
                obtain rfl : ad256 = ad260 := (by injection e260)
                replace hx260_0 := (HB.out.cell (zW w _ hx260_0)).trans hx260_0
                have HR260_0 := zM hi260_0
                have HC260_0 := zM hl260_0
                clear hi260_0 hl260_0
                replace p260 := eq_true p260
                replace q260 := eq_true q260
                go_wp2_with (first | ((with_reducible refine gate_builtin (b := .append) (xs := #[.tmp 141, .tmp 143]) rfl ?_); at_builtin; refine Kd.R_append (Kd.int .i64) (w0 := w) w.heap.size rfl (.tmp 141) (.tmp 143) 23 3 (.int .i64 0) 8 rfl Try.underlying23 info3 rfl (by decide) (by omega) u18 x18_6 (wrap64 (-x20_7)) [.int .i64 (wrap64 (-x20_7))] (fun k_ => some k_ ≠ (.slice Ao33 t240.length co33 : Value).ownBlock) (fun _ => False) rfl rfl ?aP (fun _ hk => hk.elim) ?aF ?aO ?aB ?aS ?aL ?_; (case aP => exact rfl); (case aB => exact (by repeat (first | (with_reducible first | exact HB.out | apply zBa | apply zBn | apply zBd) | exact HB.out))); (case aF => exact (fun k_ hk => Kd.fresh' (Kd.R_lt (by (with_reducible repeat (first | apply zRa | apply zRn | apply zRd)); first | exact HO_12.out | (subst_vars; exact HO_12.out))) k_ hk)); (case aO => exact (by (with_reducible repeat (first | apply zRa | apply zRn | apply zRd)); first | exact HO_18.out | (subst_vars; exact HO_18.out))); (case aS => exact (below_size (by repeat (first | (with_reducible first | exact HB.out | apply zBa | apply zBn | apply zBd) | exact HB.out)))); (case aL => have := LMc63.out; omega); intro v262 w64 ho hb hg hat; (first | rw [← Ny261.out] at ho | (simp only [Int.reduceToNat] at ho; rw [← Ny261.out] at ho)); have n0_ := zM (Kd.S_after (ok := (fun k_ => some k_ ≠ (.slice Ao33 t240.length co33 : Value).ownBlock ∧ some k_ ≠ (u16 : Value).ownBlock)) (by (with_reducible repeat (first | apply Kd.S_alloc | apply Kd.S_drewN | apply Kd.S_drew)); first | exact Kd.S_mono HO_9.out (fun _ hk => ⟨⟨hk.1, hk.2.1⟩, hk.2.2⟩) | (subst_vars; exact Kd.S_mono HO_9.out (fun _ hk => ⟨⟨hk.1, hk.2.1⟩, hk.2.2⟩))) hg hat); have n1_ := zM (Kd.R_after (ok := (fun _ => True)) (by (with_reducible repeat (first | apply zRa | apply zRn | apply zRd)); first | exact Kd.R_mono HO_12.out (fun _ hk => ⟨trivial, hk⟩) | (subst_vars; exact Kd.R_mono HO_12.out (fun _ hk => ⟨trivial, hk⟩))) hg hat); have n2_ := zM (Kd.S_after (ok := (fun k_ => some k_ ≠ (.slice Ao31 x9_3.length co31 : Value).ownBlock ∧ some k_ ≠ (.slice Ao33 t240.length co33 : Value).ownBlock)) (by (with_reducible repeat (first | apply Kd.S_alloc | apply Kd.S_drewN | apply Kd.S_drew)); first | exact Kd.S_mono HO_16.out (fun _ hk => ⟨⟨hk.1, hk.2.1⟩, hk.2.2⟩) | (subst_vars; exact Kd.S_mono HO_16.out (fun _ hk => ⟨⟨hk.1, hk.2.1⟩, hk.2.2⟩))) hg hat); have n3_ := zM (hb); have n4_ := zM (ho); clear HO_9; clear HO_12; clear HO_16; clear HB; clear HO_18; have HO_9 := n0_; have HO_12 := n1_; have HO_16 := n2_; have HB := n3_; have HO263 := n4_; clear n0_ n1_ n2_ n3_ n4_; clear ho hb hg hat))
                go_roundg k7
                case measure => have := HJ3.out; have := HK2.out; have := HK3.out; have := HJ29.out; have := HK5.out; have := HK6.out; have := HK7.out; omega
                case rel => exact ⟨(y261), (wrap64 (x19_6 + 1)), (by first | rfl | (simp; done) | (simp [*]; done)), H', ⟨by have := HJ3.out; have := HK2.out; have := HK3.out; have := HJ29.out; have := HK5.out; have := HK6.out; have := HK7.out; omega⟩, ⟨by (with_reducible repeat (first | apply Kd.S_alloc | apply Kd.S_drewN | apply Kd.S_drew)); first | exact Kd.S_mono HO_9.out (fun _ hk => ⟨hk.1.1, ⟨hk.1.2, hk.2⟩⟩) | (subst_vars; exact Kd.S_mono HO_9.out (fun _ hk => ⟨hk.1.1, ⟨hk.1.2, hk.2⟩⟩))⟩, ⟨by (with_reducible repeat (first | apply zRa | apply zRn | apply zRd)); first | exact Kd.R_mono HO_12.out (fun _ hk => hk.2) | (subst_vars; exact Kd.R_mono HO_12.out (fun _ hk => hk.2))⟩, ⟨by (with_reducible repeat (first | apply Kd.S_alloc | apply Kd.S_drewN | apply Kd.S_drew)); first | exact Kd.S_mono HO_16.out (fun _ hk => ⟨hk.1.1, ⟨hk.1.2, hk.2⟩⟩) | (subst_vars; exact Kd.S_mono HO_16.out (fun _ hk => ⟨hk.1.1, ⟨hk.1.2, hk.2⟩⟩))⟩, ⟨by (with_reducible repeat (first | apply zRa | apply zRn | apply zRd)); first | exact HO263.out | (subst_vars; exact HO263.out)⟩, ⟨by repeat (first | (with_reducible first | exact HB.out | apply zBa | apply zBn | apply zBd) | exact HB.out)⟩⟩
               rw [if_pos c52] at H
               have c52b0 : decide (x22_7 < ((rd_L1 l0 x17_5).length : Int)) = true := zE c52
               clear c52
               by_cases c53 : 0 ≤ x22_7
               case neg =>
                rw [if_neg c53] at H
                exact absurd H (by simp)
               rw [if_pos c53] at H
               have c53b0 : decide (0 ≤ x22_7) = true := zE c53
               clear c53
               by_cases c54 : 0 ≤ (rd (rd_L1 l0 x17_5) x22_7)
               case neg =>
                rw [if_neg c54] at H
                exact absurd H (by simp)
               rw [if_pos c54] at H
               have c54b0 : decide (0 ≤ (rd (rd_L1 l0 x17_5) x22_7)) = true := zE c54
               clear c54
               by_cases c55 : (rd (rd_L1 l0 x17_5) x22_7) < (t240.length : Int)
               case neg =>
                rw [if_neg c55] at H
                exact absurd H (by simp)
               rw [if_pos c55] at H
               have c55b0 : decide ((rd (rd_L1 l0 x17_5) x22_7) < (t240.length : Int)) = true := zE c55
               clear c55
               by_cases c56 : x17_5 < (x9_3.length : Int)
               case neg =>
                rw [if_neg c56] at H
                exact absurd H (by simp)
               rw [if_pos c56] at H
               have c56b0 : decide (x17_5 < (x9_3.length : Int)) = true := zE c56
               clear c56
               by_cases c57 : x22_7 < ((rd_L1 x9_3 x17_5).length : Int)
               case neg =>
                rw [if_neg c57] at H
                exact absurd H (by simp)
               rw [if_pos c57] at H
               have c57b0 : decide (x22_7 < ((rd_L1 x9_3 x17_5).length : Int)) = true := zE c57
               clear c57
               by_cases c58 : x22_7 = x19_6
               case pos =>
                rw [if_pos c58] at H
                have c58b0 : (x22_7 == x19_6) = true := beq_iff_eq.mpr c58
                have c58b1 : (x22_7 != x19_6) = false := bne_eq_false_iff_eq.mpr c58
                clear c58
                have H' := zM H
                clear H
                have p260 : 0 ≤ (x17_5 : Int) := zT (by assumption)
                have q260 : x17_5 < (l0.length : Int) := zT (by assumption)
                obtain ⟨ad260, A260_0, c260_0, e260, hx260_0, hl260_0, hi260_0⟩ := at_L1 HR0.out x17_5 p260 q260
                obtain rfl : ad256 = ad260 := (by injection e260)
                replace hx260_0 := (HB.out.cell (zW w _ hx260_0)).trans hx260_0
                have HR260_0 := zM hi260_0
                have HC260_0 := zM hl260_0
                clear hi260_0 hl260_0
                replace p260 := eq_true p260
                replace q260 := eq_true q260
                have p267 : 0 ≤ (x17_5 : Int) := zT (by assumption)
                have q267 : x17_5 < (l0.length : Int) := zT (by assumption)
                obtain ⟨ad267, A267_0, c267_0, e267, hx267_0, hl267_0, hi267_0⟩ := at_L1 HR0.out x17_5 p267 q267
                obtain rfl : ad256 = ad267 := (by injection e267)
                replace hx267_0 := (HB.out.cell (zW w _ hx267_0)).trans hx267_0
                have HR267_0 := zM hi267_0
                have HC267_0 := zM hl267_0
                clear hi267_0 hl267_0
                replace p267 := eq_true p267
                replace q267 := eq_true q267
                have ea_ := zI (hx260_0.symm.trans hx267_0)
                injection ea_ with ea_ en_ ec_
                subst ea_
                subst ec_
                clear en_
                have p268 : 0 ≤ (x22_7 : Int) := zT (by assumption)
                have q268 : x22_7 < ((rd_L1 l0 x17_5).length : Int) := zT (by assumption)
                obtain ⟨ad268, e268, hx268_0⟩ := Kd.at_int HR267_0.out x22_7 p268 q268
                cases e268
                replace hx268_0 := (HB.out.cell (zW w _ hx268_0)).trans hx268_0
                replace p268 := eq_true p268
                replace q268 := eq_true q268
                have p269 : 0 ≤ ((rd (rd_L1 l0 x17_5) x22_7) : Int) := zT (by assumption)
                have q269 : (rd (rd_L1 l0 x17_5) x22_7) < (t240.length : Int) := zT (by assumption)
                obtain ⟨ad269, e269, hx269_0⟩ := Kd.at_int (Kd.R_reads' HO_12.out).2.2 (rd (rd_L1 l0 x17_5) x22_7) p269 q269
                cases e269
                replace p269 := eq_true p269
                replace q269 := eq_true q269
                have p270 : 0 ≤ (x17_5 : Int) := zT (by assumption)
                have q270 : x17_5 < (x9_3.length : Int) := zT (by assumption)
                obtain ⟨ad270, A270_0, c270_0, e270, hx270_0, hl270_0, hi270_0⟩ := at_L1 (Kd.S_reads' HO_9.out).2.2 x17_5 p270 q270
                cases e270
                obtain ⟨ce270, hce270, hMe270, hcc270⟩ := Kd.S_get HO_9.out [] x17_5 p270 (by first | exact q270 | exact zT (by assumption) | (have e_ := (Kd.S_reads' HO_9.out).1; omega))
                obtain ⟨ve270_0, rfl, ge270_0⟩ := hMe270
                have hv270_0 := hcc270 0 _ rfl
                rw [Nat.add_zero, show ((Kd.slice 3 (Kd.int .i64))).sz = 1 from rfl, Nat.mul_one] at hv270_0
                replace hv270_0 := zI (hv270_0.symm.trans hx270_0)
                rw [hv270_0] at ge270_0
                have HL270_0 := zM (show Kd.R (Kd.int .i64) 3 _ _ _ _ (rd_L1 x9_3 x17_5) from ge270_0)
                clear hv270_0 ge270_0
                clear hcc270 hce270
                have HR270_0 := zM hi270_0
                have HC270_0 := zM hl270_0
                clear hi270_0 hl270_0
                replace p270 := eq_true p270
                replace q270 := eq_true q270
                have p271 : 0 ≤ (x22_7 : Int) := zT (by assumption)
                have q271 : x22_7 < ((rd_L1 x9_3 x17_5).length : Int) := zT (by assumption)
                obtain ⟨ad271, e271, hx271_0⟩ := Kd.at_int (by repeat (first | (with_reducible exact HR270_0.out) | (with_reducible first | refine zCa ?_ _ | refine zCn ?_ _ | refine zCd ?_) | exact HR270_0.out)) x22_7 p271 q271
                cases e271
                replace p271 := eq_true p271
                replace q271 := eq_true q271
                go_wp2
                repeat (go_quiet (fail); try go_wp2)
                go_roundg k7
                case measure => have := HJ3.out; have := HK2.out; have := HK3.out; have := HJ29.out; have := HK5.out; have := HK6.out; have := HK7.out; omega
                case rel => exact ⟨(x20_7), (x21_7), (wrap64 (x22_7 + 1)), (by first | rfl | (simp; done) | (simp [*]; done)), (by first | rfl | (simp; done) | (simp [*]; done)), (by first | rfl | (simp; done) | (simp [*]; done)), H', ⟨by have := HJ3.out; have := HK2.out; have := HK3.out; have := HJ29.out; have := HK5.out; have := HK6.out; have := HK7.out; omega⟩, ⟨by (with_reducible repeat (first | apply Kd.S_alloc | apply Kd.S_drewN | apply Kd.S_drew)); first | exact HO_9.out | (subst_vars; exact HO_9.out)⟩, ⟨by (with_reducible repeat (first | apply zRa | apply zRn | apply zRd)); first | exact HO_12.out | (subst_vars; exact HO_12.out)⟩, ⟨by (with_reducible repeat (first | apply Kd.S_alloc | apply Kd.S_drewN | apply Kd.S_drew)); first | exact HO_16.out | (subst_vars; exact HO_16.out)⟩, ⟨by (with_reducible repeat (first | apply zRa | apply zRn | apply zRd)); first | exact HO_18.out | (subst_vars; exact HO_18.out)⟩, ⟨by repeat (first | (with_reducible first | exact HB.out | apply zBa | apply zBn | apply zBd) | exact HB.out)⟩⟩
               rw [if_neg c58] at H
               have c58b0 : (x22_7 == x19_6) = false := beq_eq_false_iff_ne.mpr c58
               have c58b1 : (x22_7 != x19_6) = true := bne_iff_ne.mpr c58
               by_cases c59 : (wrap64 ((rd t240 (rd (rd_L1 l0 x17_5) x22_7)) - (rd (rd_L1 x9_3 x17_5) x22_7))) < 0
               case neg =>
                rw [if_neg c59] at H
                have c59b0 : decide ((wrap64 ((rd t240 (rd (rd_L1 l0 x17_5) x22_7)) - (rd (rd_L1 x9_3 x17_5) x22_7))) < 0) = false := decide_eq_false c59
                clear c59
                by_cases c61 : (wrap64 ((rd t240 (rd (rd_L1 l0 x17_5) x22_7)) - (rd (rd_L1 x9_3 x17_5) x22_7))) < x20_7
                case neg =>
                 rw [if_neg c61] at H
                 have c61b0 : decide ((wrap64 ((rd t240 (rd (rd_L1 l0 x17_5) x22_7)) - (rd (rd_L1 x9_3 x17_5) x22_7))) < x20_7) = false := decide_eq_false c61
                 clear c61
                 have H' := zM H
                 clear H
                 have p260 : 0 ≤ (x17_5 : Int) := zT (by assumption)
                 have q260 : x17_5 < (l0.length : Int) := zT (by assumption)
                 obtain ⟨ad260, A260_0, c260_0, e260, hx260_0, hl260_0, hi260_0⟩ := at_L1 HR0.out x17_5 p260 q260
                 obtain rfl : ad256 = ad260 := (by injection e260)
                 replace hx260_0 := (HB.out.cell (zW w _ hx260_0)).trans hx260_0
                 have HR260_0 := zM hi260_0
                 have HC260_0 := zM hl260_0
                 clear hi260_0 hl260_0
                 replace p260 := eq_true p260
                 replace q260 := eq_true q260
                 have p267 : 0 ≤ (x17_5 : Int) := zT (by assumption)
                 have q267 : x17_5 < (l0.length : Int) := zT (by assumption)
                 obtain ⟨ad267, A267_0, c267_0, e267, hx267_0, hl267_0, hi267_0⟩ := at_L1 HR0.out x17_5 p267 q267
                 obtain rfl : ad256 = ad267 := (by injection e267)
                 replace hx267_0 := (HB.out.cell (zW w _ hx267_0)).trans hx267_0
                 have HR267_0 := zM hi267_0
                 have HC267_0 := zM hl267_0
                 clear hi267_0 hl267_0
                 replace p267 := eq_true p267
                 replace q267 := eq_true q267
                 have ea_ := zI (hx260_0.symm.trans hx267_0)
                 injection ea_ with ea_ en_ ec_
                 subst ea_
                 subst ec_
                 clear en_
                 have p268 : 0 ≤ (x22_7 : Int) := zT (by assumption)
                 have q268 : x22_7 < ((rd_L1 l0 x17_5).length : Int) := zT (by assumption)
                 obtain ⟨ad268, e268, hx268_0⟩ := Kd.at_int HR267_0.out x22_7 p268 q268
                 cases e268
                 replace hx268_0 := (HB.out.cell (zW w _ hx268_0)).trans hx268_0
                 replace p268 := eq_true p268
                 replace q268 := eq_true q268
                 have p269 : 0 ≤ ((rd (rd_L1 l0 x17_5) x22_7) : Int) := zT (by assumption)
                 have q269 : (rd (rd_L1 l0 x17_5) x22_7) < (t240.length : Int) := zT (by assumption)
                 obtain ⟨ad269, e269, hx269_0⟩ := Kd.at_int (Kd.R_reads' HO_12.out).2.2 (rd (rd_L1 l0 x17_5) x22_7) p269 q269
                 cases e269
                 replace p269 := eq_true p269
                 replace q269 := eq_true q269
                 have p270 : 0 ≤ (x17_5 : Int) := zT (by assumption)
                 have q270 : x17_5 < (x9_3.length : Int) := zT (by assumption)
                 obtain ⟨ad270, A270_0, c270_0, e270, hx270_0, hl270_0, hi270_0⟩ := at_L1 (Kd.S_reads' HO_9.out).2.2 x17_5 p270 q270
                 cases e270
                 obtain ⟨ce270, hce270, hMe270, hcc270⟩ := Kd.S_get HO_9.out [] x17_5 p270 (by first | exact q270 | exact zT (by assumption) | (have e_ := (Kd.S_reads' HO_9.out).1; omega))
                 obtain ⟨ve270_0, rfl, ge270_0⟩ := hMe270
                 have hv270_0 := hcc270 0 _ rfl
                 rw [Nat.add_zero, show ((Kd.slice 3 (Kd.int .i64))).sz = 1 from rfl, Nat.mul_one] at hv270_0
                 replace hv270_0 := zI (hv270_0.symm.trans hx270_0)
                 rw [hv270_0] at ge270_0
                 have HL270_0 := zM (show Kd.R (Kd.int .i64) 3 _ _ _ _ (rd_L1 x9_3 x17_5) from ge270_0)
                 clear hv270_0 ge270_0
                 clear hcc270 hce270
                 have HR270_0 := zM hi270_0
                 have HC270_0 := zM hl270_0
                 clear hi270_0 hl270_0
                 replace p270 := eq_true p270
                 replace q270 := eq_true q270
                 have p271 : 0 ≤ (x22_7 : Int) := zT (by assumption)
                 have q271 : x22_7 < ((rd_L1 x9_3 x17_5).length : Int) := zT (by assumption)
                 obtain ⟨ad271, e271, hx271_0⟩ := Kd.at_int (by repeat (first | (with_reducible exact HR270_0.out) | (with_reducible first | refine zCa ?_ _ | refine zCn ?_ _ | refine zCd ?_) | exact HR270_0.out)) x22_7 p271 q271
                 cases e271
                 replace p271 := eq_true p271
                 replace q271 := eq_true q271
                 go_wp2
                 repeat (go_quiet (fail); try go_wp2)
                 go_roundg k7
                 case measure => have := HJ3.out; have := HK2.out; have := HK3.out; have := HJ29.out; have := HK5.out; have := HK6.out; have := HK7.out; omega
                 case rel => exact ⟨(x20_7), (x21_7), (wrap64 (x22_7 + 1)), (by first | rfl | (simp; done) | (simp [*]; done)), (by first | rfl | (simp; done) | (simp [*]; done)), (by first | rfl | (simp; done) | (simp [*]; done)), H', ⟨by have := HJ3.out; have := HK2.out; have := HK3.out; have := HJ29.out; have := HK5.out; have := HK6.out; have := HK7.out; omega⟩, ⟨by (with_reducible repeat (first | apply Kd.S_alloc | apply Kd.S_drewN | apply Kd.S_drew)); first | exact HO_9.out | (subst_vars; exact HO_9.out)⟩, ⟨by (with_reducible repeat (first | apply zRa | apply zRn | apply zRd)); first | exact HO_12.out | (subst_vars; exact HO_12.out)⟩, ⟨by (with_reducible repeat (first | apply Kd.S_alloc | apply Kd.S_drewN | apply Kd.S_drew)); first | exact HO_16.out | (subst_vars; exact HO_16.out)⟩, ⟨by (with_reducible repeat (first | apply zRa | apply zRn | apply zRd)); first | exact HO_18.out | (subst_vars; exact HO_18.out)⟩, ⟨by repeat (first | (with_reducible first | exact HB.out | apply zBa | apply zBn | apply zBd) | exact HB.out)⟩⟩
                rw [if_pos c61] at H
                have c61b0 : decide ((wrap64 ((rd t240 (rd (rd_L1 l0 x17_5) x22_7)) - (rd (rd_L1 x9_3 x17_5) x22_7))) < x20_7) = true := zE c61
                clear c61
                have H' := zM H
                clear H
                have p260 : 0 ≤ (x17_5 : Int) := zT (by assumption)
                have q260 : x17_5 < (l0.length : Int) := zT (by assumption)
                obtain ⟨ad260, A260_0, c260_0, e260, hx260_0, hl260_0, hi260_0⟩ := at_L1 HR0.out x17_5 p260 q260
                obtain rfl : ad256 = ad260 := (by injection e260)
                replace hx260_0 := (HB.out.cell (zW w _ hx260_0)).trans hx260_0
                have HR260_0 := zM hi260_0
                have HC260_0 := zM hl260_0
                clear hi260_0 hl260_0
                replace p260 := eq_true p260
                replace q260 := eq_true q260
                have p267 : 0 ≤ (x17_5 : Int) := zT (by assumption)
                have q267 : x17_5 < (l0.length : Int) := zT (by assumption)
                obtain ⟨ad267, A267_0, c267_0, e267, hx267_0, hl267_0, hi267_0⟩ := at_L1 HR0.out x17_5 p267 q267
                obtain rfl : ad256 = ad267 := (by injection e267)
                replace hx267_0 := (HB.out.cell (zW w _ hx267_0)).trans hx267_0
                have HR267_0 := zM hi267_0
                have HC267_0 := zM hl267_0
                clear hi267_0 hl267_0
                replace p267 := eq_true p267
                replace q267 := eq_true q267
                have ea_ := zI (hx260_0.symm.trans hx267_0)
                injection ea_ with ea_ en_ ec_
                subst ea_
                subst ec_
                clear en_
                have p268 : 0 ≤ (x22_7 : Int) := zT (by assumption)
                have q268 : x22_7 < ((rd_L1 l0 x17_5).length : Int) := zT (by assumption)
                obtain ⟨ad268, e268, hx268_0⟩ := Kd.at_int HR267_0.out x22_7 p268 q268
                cases e268
                replace hx268_0 := (HB.out.cell (zW w _ hx268_0)).trans hx268_0
                replace p268 := eq_true p268
                replace q268 := eq_true q268
                have p269 : 0 ≤ ((rd (rd_L1 l0 x17_5) x22_7) : Int) := zT (by assumption)
                have q269 : (rd (rd_L1 l0 x17_5) x22_7) < (t240.length : Int) := zT (by assumption)
                obtain ⟨ad269, e269, hx269_0⟩ := Kd.at_int (Kd.R_reads' HO_12.out).2.2 (rd (rd_L1 l0 x17_5) x22_7) p269 q269
                cases e269
                replace p269 := eq_true p269
                replace q269 := eq_true q269
                have p270 : 0 ≤ (x17_5 : Int) := zT (by assumption)
                have q270 : x17_5 < (x9_3.length : Int) := zT (by assumption)
                obtain ⟨ad270, A270_0, c270_0, e270, hx270_0, hl270_0, hi270_0⟩ := at_L1 (Kd.S_reads' HO_9.out).2.2 x17_5 p270 q270
                cases e270
                obtain ⟨ce270, hce270, hMe270, hcc270⟩ := Kd.S_get HO_9.out [] x17_5 p270 (by first | exact q270 | exact zT (by assumption) | (have e_ := (Kd.S_reads' HO_9.out).1; omega))
                obtain ⟨ve270_0, rfl, ge270_0⟩ := hMe270
                have hv270_0 := hcc270 0 _ rfl
                rw [Nat.add_zero, show ((Kd.slice 3 (Kd.int .i64))).sz = 1 from rfl, Nat.mul_one] at hv270_0
                replace hv270_0 := zI (hv270_0.symm.trans hx270_0)
                rw [hv270_0] at ge270_0
                have HL270_0 := zM (show Kd.R (Kd.int .i64) 3 _ _ _ _ (rd_L1 x9_3 x17_5) from ge270_0)
                clear hv270_0 ge270_0
                clear hcc270 hce270
                have HR270_0 := zM hi270_0
                have HC270_0 := zM hl270_0
                clear hi270_0 hl270_0
                replace p270 := eq_true p270
                replace q270 := eq_true q270
                have p271 : 0 ≤ (x22_7 : Int) := zT (by assumption)
                have q271 : x22_7 < ((rd_L1 x9_3 x17_5).length : Int) := zT (by assumption)
                obtain ⟨ad271, e271, hx271_0⟩ := Kd.at_int (by repeat (first | (with_reducible exact HR270_0.out) | (with_reducible first | refine zCa ?_ _ | refine zCn ?_ _ | refine zCd ?_) | exact HR270_0.out)) x22_7 p271 q271
                cases e271
                replace p271 := eq_true p271
                replace q271 := eq_true q271
                go_wp2
                repeat (go_quiet (fail); try go_wp2)
                go_roundg k7
                case measure => have := HJ3.out; have := HK2.out; have := HK3.out; have := HJ29.out; have := HK5.out; have := HK6.out; have := HK7.out; omega
                case rel => exact ⟨(wrap64 ((rd t240 (rd (rd_L1 l0 x17_5) x22_7)) - (rd (rd_L1 x9_3 x17_5) x22_7))), (x21_7), (wrap64 (x22_7 + 1)), (by first | rfl | (simp; done) | (simp [*]; done)), (by first | rfl | (simp; done) | (simp [*]; done)), (by first | rfl | (simp; done) | (simp [*]; done)), H', ⟨by have := HJ3.out; have := HK2.out; have := HK3.out; have := HJ29.out; have := HK5.out; have := HK6.out; have := HK7.out; omega⟩, ⟨by (with_reducible repeat (first | apply Kd.S_alloc | apply Kd.S_drewN | apply Kd.S_drew)); first | exact HO_9.out | (subst_vars; exact HO_9.out)⟩, ⟨by (with_reducible repeat (first | apply zRa | apply zRn | apply zRd)); first | exact HO_12.out | (subst_vars; exact HO_12.out)⟩, ⟨by (with_reducible repeat (first | apply Kd.S_alloc | apply Kd.S_drewN | apply Kd.S_drew)); first | exact HO_16.out | (subst_vars; exact HO_16.out)⟩, ⟨by (with_reducible repeat (first | apply zRa | apply zRn | apply zRd)); first | exact HO_18.out | (subst_vars; exact HO_18.out)⟩, ⟨by repeat (first | (with_reducible first | exact HB.out | apply zBa | apply zBn | apply zBd) | exact HB.out)⟩⟩
               rw [if_pos c59] at H
               have c59b0 : decide ((wrap64 ((rd t240 (rd (rd_L1 l0 x17_5) x22_7)) - (rd (rd_L1 x9_3 x17_5) x22_7))) < 0) = true := zE c59
               clear c59
               by_cases c60 : (wrap64 (-(wrap64 ((rd t240 (rd (rd_L1 l0 x17_5) x22_7)) - (rd (rd_L1 x9_3 x17_5) x22_7))))) < x20_7
               case neg =>
                rw [if_neg c60] at H
                have c60b0 : decide ((wrap64 (-(wrap64 ((rd t240 (rd (rd_L1 l0 x17_5) x22_7)) - (rd (rd_L1 x9_3 x17_5) x22_7))))) < x20_7) = false := decide_eq_false c60
                clear c60
                have H' := zM H
                clear H
                have p260 : 0 ≤ (x17_5 : Int) := zT (by assumption)
                have q260 : x17_5 < (l0.length : Int) := zT (by assumption)
                obtain ⟨ad260, A260_0, c260_0, e260, hx260_0, hl260_0, hi260_0⟩ := at_L1 HR0.out x17_5 p260 q260
                obtain rfl : ad256 = ad260 := (by injection e260)
                replace hx260_0 := (HB.out.cell (zW w _ hx260_0)).trans hx260_0
                have HR260_0 := zM hi260_0
                have HC260_0 := zM hl260_0
                clear hi260_0 hl260_0
                replace p260 := eq_true p260
                replace q260 := eq_true q260
                have p267 : 0 ≤ (x17_5 : Int) := zT (by assumption)
                have q267 : x17_5 < (l0.length : Int) := zT (by assumption)
                obtain ⟨ad267, A267_0, c267_0, e267, hx267_0, hl267_0, hi267_0⟩ := at_L1 HR0.out x17_5 p267 q267
                obtain rfl : ad256 = ad267 := (by injection e267)
                replace hx267_0 := (HB.out.cell (zW w _ hx267_0)).trans hx267_0
                have HR267_0 := zM hi267_0
                have HC267_0 := zM hl267_0
                clear hi267_0 hl267_0
                replace p267 := eq_true p267
                replace q267 := eq_true q267
                have ea_ := zI (hx260_0.symm.trans hx267_0)
                injection ea_ with ea_ en_ ec_
                subst ea_
                subst ec_
                clear en_
                have p268 : 0 ≤ (x22_7 : Int) := zT (by assumption)
                have q268 : x22_7 < ((rd_L1 l0 x17_5).length : Int) := zT (by assumption)
                obtain ⟨ad268, e268, hx268_0⟩ := Kd.at_int HR267_0.out x22_7 p268 q268
                cases e268
                replace hx268_0 := (HB.out.cell (zW w _ hx268_0)).trans hx268_0
                replace p268 := eq_true p268
                replace q268 := eq_true q268
                have p269 : 0 ≤ ((rd (rd_L1 l0 x17_5) x22_7) : Int) := zT (by assumption)
                have q269 : (rd (rd_L1 l0 x17_5) x22_7) < (t240.length : Int) := zT (by assumption)
                obtain ⟨ad269, e269, hx269_0⟩ := Kd.at_int (Kd.R_reads' HO_12.out).2.2 (rd (rd_L1 l0 x17_5) x22_7) p269 q269
                cases e269
                replace p269 := eq_true p269
                replace q269 := eq_true q269
                have p270 : 0 ≤ (x17_5 : Int) := zT (by assumption)
                have q270 : x17_5 < (x9_3.length : Int) := zT (by assumption)
                obtain ⟨ad270, A270_0, c270_0, e270, hx270_0, hl270_0, hi270_0⟩ := at_L1 (Kd.S_reads' HO_9.out).2.2 x17_5 p270 q270
                cases e270
                obtain ⟨ce270, hce270, hMe270, hcc270⟩ := Kd.S_get HO_9.out [] x17_5 p270 (by first | exact q270 | exact zT (by assumption) | (have e_ := (Kd.S_reads' HO_9.out).1; omega))
                obtain ⟨ve270_0, rfl, ge270_0⟩ := hMe270
                have hv270_0 := hcc270 0 _ rfl
                rw [Nat.add_zero, show ((Kd.slice 3 (Kd.int .i64))).sz = 1 from rfl, Nat.mul_one] at hv270_0
                replace hv270_0 := zI (hv270_0.symm.trans hx270_0)
                rw [hv270_0] at ge270_0
                have HL270_0 := zM (show Kd.R (Kd.int .i64) 3 _ _ _ _ (rd_L1 x9_3 x17_5) from ge270_0)
                clear hv270_0 ge270_0
                clear hcc270 hce270
                have HR270_0 := zM hi270_0
                have HC270_0 := zM hl270_0
                clear hi270_0 hl270_0
                replace p270 := eq_true p270
                replace q270 := eq_true q270
                have p271 : 0 ≤ (x22_7 : Int) := zT (by assumption)
                have q271 : x22_7 < ((rd_L1 x9_3 x17_5).length : Int) := zT (by assumption)
                obtain ⟨ad271, e271, hx271_0⟩ := Kd.at_int (by repeat (first | (with_reducible exact HR270_0.out) | (with_reducible first | refine zCa ?_ _ | refine zCn ?_ _ | refine zCd ?_) | exact HR270_0.out)) x22_7 p271 q271
                cases e271
                replace p271 := eq_true p271
                replace q271 := eq_true q271
                go_wp2
                repeat (go_quiet (fail); try go_wp2)
                go_roundg k7
                case measure => have := HJ3.out; have := HK2.out; have := HK3.out; have := HJ29.out; have := HK5.out; have := HK6.out; have := HK7.out; omega
                case rel => exact ⟨(x20_7), (!x21_7), (wrap64 (x22_7 + 1)), (by first | rfl | (simp; done) | (simp [*]; done)), (by first | rfl | (simp; done) | (simp [*]; done)), (by first | rfl | (simp; done) | (simp [*]; done)), H', ⟨by have := HJ3.out; have := HK2.out; have := HK3.out; have := HJ29.out; have := HK5.out; have := HK6.out; have := HK7.out; omega⟩, ⟨by (with_reducible repeat (first | apply Kd.S_alloc | apply Kd.S_drewN | apply Kd.S_drew)); first | exact HO_9.out | (subst_vars; exact HO_9.out)⟩, ⟨by (with_reducible repeat (first | apply zRa | apply zRn | apply zRd)); first | exact HO_12.out | (subst_vars; exact HO_12.out)⟩, ⟨by (with_reducible repeat (first | apply Kd.S_alloc | apply Kd.S_drewN | apply Kd.S_drew)); first | exact HO_16.out | (subst_vars; exact HO_16.out)⟩, ⟨by (with_reducible repeat (first | apply zRa | apply zRn | apply zRd)); first | exact HO_18.out | (subst_vars; exact HO_18.out)⟩, ⟨by repeat (first | (with_reducible first | exact HB.out | apply zBa | apply zBn | apply zBd) | exact HB.out)⟩⟩
               rw [if_pos c60] at H
               have c60b0 : decide ((wrap64 (-(wrap64 ((rd t240 (rd (rd_L1 l0 x17_5) x22_7)) - (rd (rd_L1 x9_3 x17_5) x22_7))))) < x20_7) = true := zE c60
               clear c60
               have H' := zM H
               clear H
               have p260 : 0 ≤ (x17_5 : Int) := zT (by assumption)
               have q260 : x17_5 < (l0.length : Int) := zT (by assumption)
               obtain ⟨ad260, A260_0, c260_0, e260, hx260_0, hl260_0, hi260_0⟩ := at_L1 HR0.out x17_5 p260 q260
               obtain rfl : ad256 = ad260 := (by injection e260)
               replace hx260_0 := (HB.out.cell (zW w _ hx260_0)).trans hx260_0
               have HR260_0 := zM hi260_0
               have HC260_0 := zM hl260_0
               clear hi260_0 hl260_0
               replace p260 := eq_true p260
               replace q260 := eq_true q260
               have p267 : 0 ≤ (x17_5 : Int) := zT (by assumption)
               have q267 : x17_5 < (l0.length : Int) := zT (by assumption)
               obtain ⟨ad267, A267_0, c267_0, e267, hx267_0, hl267_0, hi267_0⟩ := at_L1 HR0.out x17_5 p267 q267
               obtain rfl : ad256 = ad267 := (by injection e267)
               replace hx267_0 := (HB.out.cell (zW w _ hx267_0)).trans hx267_0
               have HR267_0 := zM hi267_0
               have HC267_0 := zM hl267_0
               clear hi267_0 hl267_0
               replace p267 := eq_true p267
               replace q267 := eq_true q267
               have ea_ := zI (hx260_0.symm.trans hx267_0)
               injection ea_ with ea_ en_ ec_
               subst ea_
               subst ec_
               clear en_
               have p268 : 0 ≤ (x22_7 : Int) := zT (by assumption)
               have q268 : x22_7 < ((rd_L1 l0 x17_5).length : Int) := zT (by assumption)
               obtain ⟨ad268, e268, hx268_0⟩ := Kd.at_int HR267_0.out x22_7 p268 q268
               cases e268
               replace hx268_0 := (HB.out.cell (zW w _ hx268_0)).trans hx268_0
               replace p268 := eq_true p268
               replace q268 := eq_true q268
               have p269 : 0 ≤ ((rd (rd_L1 l0 x17_5) x22_7) : Int) := zT (by assumption)
               have q269 : (rd (rd_L1 l0 x17_5) x22_7) < (t240.length : Int) := zT (by assumption)
               obtain ⟨ad269, e269, hx269_0⟩ := Kd.at_int (Kd.R_reads' HO_12.out).2.2 (rd (rd_L1 l0 x17_5) x22_7) p269 q269
               cases e269
               replace p269 := eq_true p269
               replace q269 := eq_true q269
               have p270 : 0 ≤ (x17_5 : Int) := zT (by assumption)
               have q270 : x17_5 < (x9_3.length : Int) := zT (by assumption)
               obtain ⟨ad270, A270_0, c270_0, e270, hx270_0, hl270_0, hi270_0⟩ := at_L1 (Kd.S_reads' HO_9.out).2.2 x17_5 p270 q270
               cases e270
               obtain ⟨ce270, hce270, hMe270, hcc270⟩ := Kd.S_get HO_9.out [] x17_5 p270 (by first | exact q270 | exact zT (by assumption) | (have e_ := (Kd.S_reads' HO_9.out).1; omega))
               obtain ⟨ve270_0, rfl, ge270_0⟩ := hMe270
               have hv270_0 := hcc270 0 _ rfl
               rw [Nat.add_zero, show ((Kd.slice 3 (Kd.int .i64))).sz = 1 from rfl, Nat.mul_one] at hv270_0
               replace hv270_0 := zI (hv270_0.symm.trans hx270_0)
               rw [hv270_0] at ge270_0
               have HL270_0 := zM (show Kd.R (Kd.int .i64) 3 _ _ _ _ (rd_L1 x9_3 x17_5) from ge270_0)
               clear hv270_0 ge270_0
               clear hcc270 hce270
               have HR270_0 := zM hi270_0
               have HC270_0 := zM hl270_0
               clear hi270_0 hl270_0
               replace p270 := eq_true p270
               replace q270 := eq_true q270
               have p271 : 0 ≤ (x22_7 : Int) := zT (by assumption)
               have q271 : x22_7 < ((rd_L1 x9_3 x17_5).length : Int) := zT (by assumption)
               obtain ⟨ad271, e271, hx271_0⟩ := Kd.at_int (by repeat (first | (with_reducible exact HR270_0.out) | (with_reducible first | refine zCa ?_ _ | refine zCn ?_ _ | refine zCd ?_) | exact HR270_0.out)) x22_7 p271 q271
               cases e271
               replace p271 := eq_true p271
               replace q271 := eq_true q271
               go_wp2
               repeat (go_quiet (fail); try go_wp2)
               go_roundg k7
               case measure => have := HJ3.out; have := HK2.out; have := HK3.out; have := HJ29.out; have := HK5.out; have := HK6.out; have := HK7.out; omega
               case rel => exact ⟨(wrap64 (-(wrap64 ((rd t240 (rd (rd_L1 l0 x17_5) x22_7)) - (rd (rd_L1 x9_3 x17_5) x22_7))))), (!x21_7), (wrap64 (x22_7 + 1)), (by first | rfl | (simp; done) | (simp [*]; done)), (by first | rfl | (simp; done) | (simp [*]; done)), (by first | rfl | (simp; done) | (simp [*]; done)), H', ⟨by have := HJ3.out; have := HK2.out; have := HK3.out; have := HJ29.out; have := HK5.out; have := HK6.out; have := HK7.out; omega⟩, ⟨by (with_reducible repeat (first | apply Kd.S_alloc | apply Kd.S_drewN | apply Kd.S_drew)); first | exact HO_9.out | (subst_vars; exact HO_9.out)⟩, ⟨by (with_reducible repeat (first | apply zRa | apply zRn | apply zRd)); first | exact HO_12.out | (subst_vars; exact HO_12.out)⟩, ⟨by (with_reducible repeat (first | apply Kd.S_alloc | apply Kd.S_drewN | apply Kd.S_drew)); first | exact HO_16.out | (subst_vars; exact HO_16.out)⟩, ⟨by (with_reducible repeat (first | apply zRa | apply zRn | apply zRd)); first | exact HO_18.out | (subst_vars; exact HO_18.out)⟩, ⟨by repeat (first | (with_reducible first | exact HB.out | apply zBa | apply zBn | apply zBd) | exact HB.out)⟩⟩

end Go.Proofs.Ytpphjbogijjnpaa.PFnParities
