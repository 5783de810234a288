-- Written by a turned copy of the print (see the notes of this repo): plain functions and their walks. Lean checks it.
import Derived.Test.YtpphjbogijjnpaaPFnParitiesx0
import Derived.Test.YtpphjbogijjnpaaPFnParitiesx1
import Derived.Test.YtpphjbogijjnpaaPFnParitiesx5
import Derived.Test.YtpphjbogijjnpaaPFnParitiesx6
import Derived.Test.YtpphjbogijjnpaaPFnParitiesx10
namespace Go.Proofs.Ytpphjbogijjnpaa.PFnParities
open Go.RowKit Go.Proofs.YtpphjbogijjnpaaW.PrintWords Go.Proofs.YtpphjbogijjnpaaW.PrintLast Go.Proofs.YtpphjbogijjnpaaW.PrintMore
attribute [local go_sem] max2_int min2_int max_two min_two max_three min_three max_four min_four   -- for this text's walks alone
set_option linter.unusedVariables false
set_option linter.unusedSimpArgs false

/-! ### impl_PassHints: function 22 -/
mutual
def impl_PassHints.j0 : Nat → List (List Int) → List Int → Int → Bool → Option (List Int × Int × Bool)
 | 0, _, _, _, _ => none
 | k + 1, x0, x1, x2, x45 => if x45 = true then (some (([] : List Int), 0, false)) else (if 0 ≤ (x0.length : Int) then (if ((x0.length : Int) : Int).toNat ≤ 11728124029610 then (impl_PassHints.l0 k x0 x1 x2 (List.replicate ((x0.length : Int) : Int).toNat []) x0 (x0.length : Int) 0) else (none)) else (none))
def impl_PassHints.l0 : Nat → List (List Int) → List Int → Int → List (List Int) → List (List Int) → Int → Int → Option (List Int × Int × Bool)
 | 0, _, _, _, _, _, _, _ => none
 | k + 1, x0, x1, x2, x9, x49, x50, x51 => if x51 < x50 then (if 0 ≤ x51 then (if x51 < (x49.length : Int) then (if 0 ≤ ((rd_L1 x49 x51).length : Int) then (if (((rd_L1 x49 x51).length : Int) : Int).toNat ≤ 35184372088832 then (if x51 < (x9.length : Int) then (impl_PassHints.l0 k x0 x1 x2 (x9.set (x51 : Int).toNat (List.replicate (((rd_L1 x49 x51).length : Int) : Int).toNat 0)) x49 x50 (wrap64 (x51 + 1))) else (none)) else (none)) else (none)) else (none)) else (none)) else (impl_PassHints.l1 k x0 x1 x2 x9 0)
def impl_PassHints.l1 : Nat → List (List Int) → List Int → Int → List (List Int) → Int → Option (List Int × Int × Bool)
 | 0, _, _, _, _, _ => none
 | k + 1, x0, x1, x2, x9, x12 => (slices_Clone_int_int.f x1).bind fun t284 => (impl_PassHints.l2 k x0 x1 x2 x9 x12 t284 x0 (x0.length : Int) 0)
def impl_PassHints.l2 : Nat → List (List Int) → List Int → Int → List (List Int) → Int → List Int → List (List Int) → Int → Int → Option (List Int × Int × Bool)
 | 0, _, _, _, _, _, _, _, _, _ => none
 | k + 1, x0, x1, x2, x9, x12, x13, x67, x68, x69 => if x69 < x68 then (if 0 ≤ x69 then (if x69 < (x67.length : Int) then (impl_PassHints.l3 k x0 x1 x2 x9 x12 x13 x69 x67 x68 x69 (rd_L1 x67 x69) ((rd_L1 x67 x69).length : Int) 0) else (none)) else (none)) else (if 0 ≤ (x1.length : Int) then (if ((x1.length : Int) : Int).toNat ≤ 35184372088832 then (impl_PassHints.l4 k x0 x1 x2 x9 x12 x13 (List.replicate ((x1.length : Int) : Int).toNat 0) (x13.length : Int) 0) else (none)) else (none))
def impl_PassHints.l3 : Nat → List (List Int) → List Int → Int → List (List Int) → Int → List Int → Int → List (List Int) → Int → Int → List Int → Int → Int → Option (List Int × Int × Bool)
 | 0, _, _, _, _, _, _, _, _, _, _, _, _, _ => none
 | k + 1, x0, x1, x2, x9, x12, x13, x14, x67, x68, x69, x74, x75, x76 => if x76 < x75 then (if 0 ≤ x76 then (if x76 < (x74.length : Int) then (if 0 ≤ (rd x74 x76) then (if (rd x74 x76) < (x13.length : Int) then (if 0 ≤ x14 then (if x14 < (x9.length : Int) then (if x76 < ((rd_L1 x9 x14).length : Int) then (impl_PassHints.l3 k x0 x1 x2 x9 x12 (x13.set ((rd x74 x76) : Int).toNat (wrap64 ((rd x13 (rd x74 x76)) + (rd (rd_L1 x9 x14) x76)))) x14 x67 x68 x69 x74 x75 (wrap64 (x76 + 1))) else (none)) else (none)) else (none)) else (none)) else (none)) else (none)) else (none)) else (impl_PassHints.l2 k x0 x1 x2 x9 x12 x13 x67 x68 (wrap64 (x69 + 1)))
def impl_PassHints.l4 : Nat → List (List Int) → List Int → Int → List (List Int) → Int → List Int → List Int → Int → Int → Option (List Int × Int × Bool)
 | 0, _, _, _, _, _, _, _, _, _ => none
 | k + 1, x0, x1, x2, x9, x12, x13, x18, x100, x101 => if x101 < x100 then (if 0 ≤ x101 then (if x101 < (x13.length : Int) then (if (rd x13 x101) < 0 then (if x101 < (x18.length : Int) then (impl_PassHints.l4 k x0 x1 x2 x9 x12 x13 (x18.set (x101 : Int).toNat 1) x100 (wrap64 (x101 + 1))) else (none)) else (impl_PassHints.l4 k x0 x1 x2 x9 x12 x13 x18 x100 (wrap64 (x101 + 1)))) else (none)) else (none)) else ((impl_fails.f k x0 x18).bind fun t298 => (if (t298.length : Int) = 0 then (impl_PassHints.j6 k x0 x1 x2 x9 x12 x13 x18 ((t298.length : Int) == 0) true) else (impl_PassHints.j6 k x0 x1 x2 x9 x12 x13 x18 ((t298.length : Int) == 0) (x12 == x2))))
def impl_PassHints.j6 : Nat → List (List Int) → List Int → Int → List (List Int) → Int → List Int → List Int → Bool → Bool → Option (List Int × Int × Bool)
 | 0, _, _, _, _, _, _, _, _, _ => none
 | k + 1, x0, x1, x2, x9, x12, x13, x18, x21, x122 => if x122 = true then (some (x18, x12, x21)) else (impl_PassHints.l5 k x0 x1 x2 x9 x12 x13 x0 (x0.length : Int) 0)
def impl_PassHints.l5 : Nat → List (List Int) → List Int → Int → List (List Int) → Int → List Int → List (List Int) → Int → Int → Option (List Int × Int × Bool)
 | 0, _, _, _, _, _, _, _, _, _ => none
 | k + 1, x0, x1, x2, x9, x12, x13, x126, x127, x128 => if x128 < x127 then (if 0 ≤ x128 then (if x128 < (x126.length : Int) then (if 0 ≤ ((rd_L1 x126 x128).length : Int) then (if (((rd_L1 x126 x128).length : Int) : Int).toNat ≤ 35184372088832 then (impl_PassHints.l6 k x0 x1 x2 x9 x12 x13 x128 (rd_L1 x126 x128) (List.replicate (((rd_L1 x126 x128).length : Int) : Int).toNat 0) x126 x127 x128 ((rd_L1 x126 x128).length : Int) 0) else (none)) else (none)) else (none)) else (none)) else (impl_PassHints.l1 k x0 x1 x2 x9 (wrap64 (x12 + 1)))
def impl_PassHints.l6 : Nat → List (List Int) → List Int → Int → List (List Int) → Int → List Int → Int → List Int → List Int → List (List Int) → Int → Int → Int → Int → Option (List Int × Int × Bool)
 | 0, _, _, _, _, _, _, _, _, _, _, _, _, _, _ => none
 | k + 1, x0, x1, x2, x9, x12, x13, x22, x23, x24, x126, x127, x128, x137, x138 => if x138 < x137 then (impl_PassHints.l7 k x0 x1 x2 x9 x12 x13 x22 x23 x24 x138 1000 false x126 x127 x128 x137 x138 x23 (x23.length : Int) 0) else (if 0 ≤ x22 then (if x22 < (x9.length : Int) then (impl_PassHints.l5 k x0 x1 x2 (x9.set (x22 : Int).toNat x24) x12 x13 x126 x127 (wrap64 (x128 + 1))) else (none)) else (none))
def impl_PassHints.l7 : Nat → List (List Int) → List Int → Int → List (List Int) → Int → List Int → Int → List Int → List Int → Int → Int → Bool → List (List Int) → Int → Int → Int → Int → List Int → Int → Int → Option (List Int × Int × Bool)
 | 0, _, _, _, _, _, _, _, _, _, _, _, _, _, _, _, _, _, _, _, _ => none
 | k + 1, x0, x1, x2, x9, x12, x13, x22, x23, x24, x25, x26, x27, x126, x127, x128, x137, x138, x141, x142, x143 => if x143 < x142 then (if 0 ≤ x143 then (if x143 < (x141.length : Int) then (if x143 = x25 then (impl_PassHints.l7 k x0 x1 x2 x9 x12 x13 x22 x23 x24 x25 x26 x27 x126 x127 x128 x137 x138 x141 x142 (wrap64 (x143 + 1))) else (if 0 ≤ (rd x141 x143) then (if (rd x141 x143) < (x13.length : Int) then (if 0 ≤ x22 then (if x22 < (x9.length : Int) then (if x143 < ((rd_L1 x9 x22).length : Int) then (if (wrap64 ((rd x13 (rd x141 x143)) - (rd (rd_L1 x9 x22) x143))) < 0 then (impl_PassHints.l7 k x0 x1 x2 x9 x12 x13 x22 x23 x24 x25 (mn x26 (wrap64 (-(wrap64 ((rd x13 (rd x141 x143)) - (rd (rd_L1 x9 x22) x143)))))) (!x27) x126 x127 x128 x137 x138 x141 x142 (wrap64 (x143 + 1))) else (impl_PassHints.l7 k x0 x1 x2 x9 x12 x13 x22 x23 x24 x25 (mn x26 (wrap64 ((rd x13 (rd x141 x143)) - (rd (rd_L1 x9 x22) x143)))) x27 x126 x127 x128 x137 x138 x141 x142 (wrap64 (x143 + 1)))) else (none)) else (none)) else (none)) else (none)) else (none))) else (none)) else (none)) else (if x27 = true then (if 0 ≤ x25 then (if x25 < (x24.length : Int) then (impl_PassHints.l6 k x0 x1 x2 x9 x12 x13 x22 x23 (x24.set (x25 : Int).toNat (wrap64 (-x26))) x126 x127 x128 x137 (wrap64 (x138 + 1))) else (none)) else (none)) else (if 0 ≤ x25 then (if x25 < (x24.length : Int) then (impl_PassHints.l6 k x0 x1 x2 x9 x12 x13 x22 x23 (x24.set (x25 : Int).toNat x26) x126 x127 x128 x137 (wrap64 (x138 + 1))) else (none)) else (none)))
end
def impl_PassHints.f (k : Nat) (l0 : List (List Int)) (l1 : List Int) (a2 : Int) : Option (List Int × Int × Bool) := (impl_ChecksOk.f k l0 (l1.length : Int)).bind fun t273 => (if t273 = true then ((impl_within.f k l1 1000).bind fun t274 => (if t274 = true then ((impl_roundsOk.f a2).bind fun t275 => (impl_PassHints.j0 k l0 l1 a2 (!t275))) else (impl_PassHints.j0 k l0 l1 a2 true))) else (impl_PassHints.j0 k l0 l1 a2 true))
theorem impl_PassHints.mono_l : ∀ k, (∀ y0 y1 y2 y3, LeO (impl_PassHints.j0 k y0 y1 y2 y3) (impl_PassHints.j0 (k + 1) y0 y1 y2 y3)) ∧ (∀ y0 y1 y2 y3 y4 y5 y6, LeO (impl_PassHints.l0 k y0 y1 y2 y3 y4 y5 y6) (impl_PassHints.l0 (k + 1) y0 y1 y2 y3 y4 y5 y6)) ∧ (∀ y0 y1 y2 y3 y4, LeO (impl_PassHints.l1 k y0 y1 y2 y3 y4) (impl_PassHints.l1 (k + 1) y0 y1 y2 y3 y4)) ∧ (∀ y0 y1 y2 y3 y4 y5 y6 y7 y8, LeO (impl_PassHints.l2 k y0 y1 y2 y3 y4 y5 y6 y7 y8) (impl_PassHints.l2 (k + 1) y0 y1 y2 y3 y4 y5 y6 y7 y8)) ∧ (∀ y0 y1 y2 y3 y4 y5 y6 y7 y8 y9 y10 y11 y12, LeO (impl_PassHints.l3 k y0 y1 y2 y3 y4 y5 y6 y7 y8 y9 y10 y11 y12) (impl_PassHints.l3 (k + 1) y0 y1 y2 y3 y4 y5 y6 y7 y8 y9 y10 y11 y12)) ∧ (∀ y0 y1 y2 y3 y4 y5 y6 y7 y8, LeO (impl_PassHints.l4 k y0 y1 y2 y3 y4 y5 y6 y7 y8) (impl_PassHints.l4 (k + 1) y0 y1 y2 y3 y4 y5 y6 y7 y8)) ∧ (∀ y0 y1 y2 y3 y4 y5 y6 y7 y8, LeO (impl_PassHints.j6 k y0 y1 y2 y3 y4 y5 y6 y7 y8) (impl_PassHints.j6 (k + 1) y0 y1 y2 y3 y4 y5 y6 y7 y8)) ∧ (∀ y0 y1 y2 y3 y4 y5 y6 y7 y8, LeO (impl_PassHints.l5 k y0 y1 y2 y3 y4 y5 y6 y7 y8) (impl_PassHints.l5 (k + 1) y0 y1 y2 y3 y4 y5 y6 y7 y8)) ∧ (∀ y0 y1 y2 y3 y4 y5 y6 y7 y8 y9 y10 y11 y12 y13, LeO (impl_PassHints.l6 k y0 y1 y2 y3 y4 y5 y6 y7 y8 y9 y10 y11 y12 y13) (impl_PassHints.l6 (k + 1) y0 y1 y2 y3 y4 y5 y6 y7 y8 y9 y10 y11 y12 y13)) ∧ (∀ y0 y1 y2 y3 y4 y5 y6 y7 y8 y9 y10 y11 y12 y13 y14 y15 y16 y17 y18 y19, LeO (impl_PassHints.l7 k y0 y1 y2 y3 y4 y5 y6 y7 y8 y9 y10 y11 y12 y13 y14 y15 y16 y17 y18 y19) (impl_PassHints.l7 (k + 1) y0 y1 y2 y3 y4 y5 y6 y7 y8 y9 y10 y11 y12 y13 y14 y15 y16 y17 y18 y19))
 | 0 => ⟨fun _ _ _ _ r h => by simp [impl_PassHints.j0] at h, fun _ _ _ _ _ _ _ r h => by simp [impl_PassHints.l0] at h, fun _ _ _ _ _ r h => by simp [impl_PassHints.l1] at h, fun _ _ _ _ _ _ _ _ _ r h => by simp [impl_PassHints.l2] at h, fun _ _ _ _ _ _ _ _ _ _ _ _ _ r h => by simp [impl_PassHints.l3] at h, fun _ _ _ _ _ _ _ _ _ r h => by simp [impl_PassHints.l4] at h, fun _ _ _ _ _ _ _ _ _ r h => by simp [impl_PassHints.j6] at h, fun _ _ _ _ _ _ _ _ _ r h => by simp [impl_PassHints.l5] at h, fun _ _ _ _ _ _ _ _ _ _ _ _ _ _ r h => by simp [impl_PassHints.l6] at h, fun _ _ _ _ _ _ _ _ _ _ _ _ _ _ _ _ _ _ _ _ r h => by simp [impl_PassHints.l7] at h⟩
 | k + 1 => by
  obtain ⟨ih0, ih1, ih2, ih3, ih4, ih5, ih6, ih7, ih8, ih9⟩ := impl_PassHints.mono_l k
  refine ⟨?_, ?_, ?_, ?_, ?_, ?_, ?_, ?_, ?_, ?_⟩
  ·intro y0 y1 y2 y3
   unfold impl_PassHints.j0
   repeat' first
   | (with_reducible exact ih0 _ _ _ _)
   | (with_reducible exact ih1 _ _ _ _ _ _ _)
   | (with_reducible exact ih2 _ _ _ _ _)
   | (with_reducible exact ih3 _ _ _ _ _ _ _ _ _)
   | (with_reducible exact ih4 _ _ _ _ _ _ _ _ _ _ _ _ _)
   | (with_reducible exact ih5 _ _ _ _ _ _ _ _ _)
   | (with_reducible exact ih6 _ _ _ _ _ _ _ _ _)
   | (with_reducible exact ih7 _ _ _ _ _ _ _ _ _)
   | (with_reducible exact ih8 _ _ _ _ _ _ _ _ _ _ _ _ _ _)
   | (with_reducible exact ih9 _ _ _ _ _ _ _ _ _ _ _ _ _ _ _ _ _ _ _ _)
   | (with_reducible exact impl_ChecksOk.mono _ _ _)
   | (with_reducible exact impl_fails.mono _ _ _)
   | (with_reducible exact impl_within.mono _ _ _)
   | (with_reducible exact LeO.refl _)
   | (with_reducible exact LeO.none _)
   | (with_reducible refine LeO.ite ?_ ?_)
   | (with_reducible refine LeO.bind ?_ (fun _ => ?_))
  ·intro y0 y1 y2 y3 y4 y5 y6
   unfold impl_PassHints.l0
   repeat' first
   | (with_reducible exact ih0 _ _ _ _)
   | (with_reducible exact ih1 _ _ _ _ _ _ _)
   | (with_reducible exact ih2 _ _ _ _ _)
   | (with_reducible exact ih3 _ _ _ _ _ _ _ _ _)
   | (with_reducible exact ih4 _ _ _ _ _ _ _ _ _ _ _ _ _)
   | (with_reducible exact ih5 _ _ _ _ _ _ _ _ _)
   | (with_reducible exact ih6 _ _ _ _ _ _ _ _ _)
   | (with_reducible exact ih7 _ _ _ _ _ _ _ _ _)
   | (with_reducible exact ih8 _ _ _ _ _ _ _ _ _ _ _ _ _ _)
   | (with_reducible exact ih9 _ _ _ _ _ _ _ _ _ _ _ _ _ _ _ _ _ _ _ _)
   | (with_reducible exact impl_ChecksOk.mono _ _ _)
   | (with_reducible exact impl_fails.mono _ _ _)
   | (with_reducible exact impl_within.mono _ _ _)
   | (with_reducible exact LeO.refl _)
   | (with_reducible exact LeO.none _)
   | (with_reducible refine LeO.ite ?_ ?_)
   | (with_reducible refine LeO.bind ?_ (fun _ => ?_))
  ·intro y0 y1 y2 y3 y4
   unfold impl_PassHints.l1
   repeat' first
   | (with_reducible exact ih0 _ _ _ _)
   | (with_reducible exact ih1 _ _ _ _ _ _ _)
   | (with_reducible exact ih2 _ _ _ _ _)
   | (with_reducible exact ih3 _ _ _ _ _ _ _ _ _)
   | (with_reducible exact ih4 _ _ _ _ _ _ _ _ _ _ _ _ _)
   | (with_reducible exact ih5 _ _ _ _ _ _ _ _ _)
   | (with_reducible exact ih6 _ _ _ _ _ _ _ _ _)
   | (with_reducible exact ih7 _ _ _ _ _ _ _ _ _)
   | (with_reducible exact ih8 _ _ _ _ _ _ _ _ _ _ _ _ _ _)
   | (with_reducible exact ih9 _ _ _ _ _ _ _ _ _ _ _ _ _ _ _ _ _ _ _ _)
   | (with_reducible exact impl_ChecksOk.mono _ _ _)
   | (with_reducible exact impl_fails.mono _ _ _)
   | (with_reducible exact impl_within.mono _ _ _)
   | (with_reducible exact LeO.refl _)
   | (with_reducible exact LeO.none _)
   | (with_reducible refine LeO.ite ?_ ?_)
   | (with_reducible refine LeO.bind ?_ (fun _ => ?_))
  ·intro y0 y1 y2 y3 y4 y5 y6 y7 y8
   unfold impl_PassHints.l2
   repeat' first
   | (with_reducible exact ih0 _ _ _ _)
   | (with_reducible exact ih1 _ _ _ _ _ _ _)
   | (with_reducible exact ih2 _ _ _ _ _)
   | (with_reducible exact ih3 _ _ _ _ _ _ _ _ _)
   | (with_reducible exact ih4 _ _ _ _ _ _ _ _ _ _ _ _ _)
   | (with_reducible exact ih5 _ _ _ _ _ _ _ _ _)
   | (with_reducible exact ih6 _ _ _ _ _ _ _ _ _)
   | (with_reducible exact ih7 _ _ _ _ _ _ _ _ _)
   | (with_reducible exact ih8 _ _ _ _ _ _ _ _ _ _ _ _ _ _)
   | (with_reducible exact ih9 _ _ _ _ _ _ _ _ _ _ _ _ _ _ _ _ _ _ _ _)
   | (with_reducible exact impl_ChecksOk.mono _ _ _)
   | (with_reducible exact impl_fails.mono _ _ _)
   | (with_reducible exact impl_within.mono _ _ _)
   | (with_reducible exact LeO.refl _)
   | (with_reducible exact LeO.none _)
   | (with_reducible refine LeO.ite ?_ ?_)
   | (with_reducible refine LeO.bind ?_ (fun _ => ?_))
  ·intro y0 y1 y2 y3 y4 y5 y6 y7 y8 y9 y10 y11 y12
   unfold impl_PassHints.l3
   repeat' first
   | (with_reducible exact ih0 _ _ _ _)
   | (with_reducible exact ih1 _ _ _ _ _ _ _)
   | (with_reducible exact ih2 _ _ _ _ _)
   | (with_reducible exact ih3 _ _ _ _ _ _ _ _ _)
   | (with_reducible exact ih4 _ _ _ _ _ _ _ _ _ _ _ _ _)
   | (with_reducible exact ih5 _ _ _ _ _ _ _ _ _)
   | (with_reducible exact ih6 _ _ _ _ _ _ _ _ _)
   | (with_reducible exact ih7 _ _ _ _ _ _ _ _ _)
   | (with_reducible exact ih8 _ _ _ _ _ _ _ _ _ _ _ _ _ _)
   | (with_reducible exact ih9 _ _ _ _ _ _ _ _ _ _ _ _ _ _ _ _ _ _ _ _)
   | (with_reducible exact impl_ChecksOk.mono _ _ _)
   | (with_reducible exact impl_fails.mono _ _ _)
   | (with_reducible exact impl_within.mono _ _ _)
   | (with_reducible exact LeO.refl _)
   | (with_reducible exact LeO.none _)
   | (with_reducible refine LeO.ite ?_ ?_)
   | (with_reducible refine LeO.bind ?_ (fun _ => ?_))
  ·intro y0 y1 y2 y3 y4 y5 y6 y7 y8
   unfold impl_PassHints.l4
   repeat' first
   | (with_reducible exact ih0 _ _ _ _)
   | (with_reducible exact ih1 _ _ _ _ _ _ _)
   | (with_reducible exact ih2 _ _ _ _ _)
   | (with_reducible exact ih3 _ _ _ _ _ _ _ _ _)
   | (with_reducible exact ih4 _ _ _ _ _ _ _ _ _ _ _ _ _)
   | (with_reducible exact ih5 _ _ _ _ _ _ _ _ _)
   | (with_reducible exact ih6 _ _ _ _ _ _ _ _ _)
   | (with_reducible exact ih7 _ _ _ _ _ _ _ _ _)
   | (with_reducible exact ih8 _ _ _ _ _ _ _ _ _ _ _ _ _ _)
   | (with_reducible exact ih9 _ _ _ _ _ _ _ _ _ _ _ _ _ _ _ _ _ _ _ _)
   | (with_reducible exact impl_ChecksOk.mono _ _ _)
   | (with_reducible exact impl_fails.mono _ _ _)
   | (with_reducible exact impl_within.mono _ _ _)
   | (with_reducible exact LeO.refl _)
   | (with_reducible exact LeO.none _)
   | (with_reducible refine LeO.ite ?_ ?_)
   | (with_reducible refine LeO.bind ?_ (fun _ => ?_))
  ·intro y0 y1 y2 y3 y4 y5 y6 y7 y8
   unfold impl_PassHints.j6
   repeat' first
   | (with_reducible exact ih0 _ _ _ _)
   | (with_reducible exact ih1 _ _ _ _ _ _ _)
   | (with_reducible exact ih2 _ _ _ _ _)
   | (with_reducible exact ih3 _ _ _ _ _ _ _ _ _)
   | (with_reducible exact ih4 _ _ _ _ _ _ _ _ _ _ _ _ _)
   | (with_reducible exact ih5 _ _ _ _ _ _ _ _ _)
   | (with_reducible exact ih6 _ _ _ _ _ _ _ _ _)
   | (with_reducible exact ih7 _ _ _ _ _ _ _ _ _)
   | (with_reducible exact ih8 _ _ _ _ _ _ _ _ _ _ _ _ _ _)
   | (with_reducible exact ih9 _ _ _ _ _ _ _ _ _ _ _ _ _ _ _ _ _ _ _ _)
   | (with_reducible exact impl_ChecksOk.mono _ _ _)
   | (with_reducible exact impl_fails.mono _ _ _)
   | (with_reducible exact impl_within.mono _ _ _)
   | (with_reducible exact LeO.refl _)
   | (with_reducible exact LeO.none _)
   | (with_reducible refine LeO.ite ?_ ?_)
   | (with_reducible refine LeO.bind ?_ (fun _ => ?_))
  ·intro y0 y1 y2 y3 y4 y5 y6 y7 y8
   unfold impl_PassHints.l5
   repeat' first
   | (with_reducible exact ih0 _ _ _ _)
   | (with_reducible exact ih1 _ _ _ _ _ _ _)
   | (with_reducible exact ih2 _ _ _ _ _)
   | (with_reducible exact ih3 _ _ _ _ _ _ _ _ _)
   | (with_reducible exact ih4 _ _ _ _ _ _ _ _ _ _ _ _ _)
   | (with_reducible exact ih5 _ _ _ _ _ _ _ _ _)
   | (with_reducible exact ih6 _ _ _ _ _ _ _ _ _)
   | (with_reducible exact ih7 _ _ _ _ _ _ _ _ _)
   | (with_reducible exact ih8 _ _ _ _ _ _ _ _ _ _ _ _ _ _)
   | (with_reducible exact ih9 _ _ _ _ _ _ _ _ _ _ _ _ _ _ _ _ _ _ _ _)
   | (with_reducible exact impl_ChecksOk.mono _ _ _)
   | (with_reducible exact impl_fails.mono _ _ _)
   | (with_reducible exact impl_within.mono _ _ _)
   | (with_reducible exact LeO.refl _)
   | (with_reducible exact LeO.none _)
   | (with_reducible refine LeO.ite ?_ ?_)
   | (with_reducible refine LeO.bind ?_ (fun _ => ?_))
  ·intro y0 y1 y2 y3 y4 y5 y6 y7 y8 y9 y10 y11 y12 y13
   unfold impl_PassHints.l6
   repeat' first
   | (with_reducible exact ih0 _ _ _ _)
   | (with_reducible exact ih1 _ _ _ _ _ _ _)
   | (with_reducible exact ih2 _ _ _ _ _)
   | (with_reducible exact ih3 _ _ _ _ _ _ _ _ _)
   | (with_reducible exact ih4 _ _ _ _ _ _ _ _ _ _ _ _ _)
   | (with_reducible exact ih5 _ _ _ _ _ _ _ _ _)
   | (with_reducible exact ih6 _ _ _ _ _ _ _ _ _)
   | (with_reducible exact ih7 _ _ _ _ _ _ _ _ _)
   | (with_reducible exact ih8 _ _ _ _ _ _ _ _ _ _ _ _ _ _)
   | (with_reducible exact ih9 _ _ _ _ _ _ _ _ _ _ _ _ _ _ _ _ _ _ _ _)
   | (with_reducible exact impl_ChecksOk.mono _ _ _)
   | (with_reducible exact impl_fails.mono _ _ _)
   | (with_reducible exact impl_within.mono _ _ _)
   | (with_reducible exact LeO.refl _)
   | (with_reducible exact LeO.none _)
   | (with_reducible refine LeO.ite ?_ ?_)
   | (with_reducible refine LeO.bind ?_ (fun _ => ?_))
  ·intro y0 y1 y2 y3 y4 y5 y6 y7 y8 y9 y10 y11 y12 y13 y14 y15 y16 y17 y18 y19
   unfold impl_PassHints.l7
   repeat' first
   | (with_reducible exact ih0 _ _ _ _)
   | (with_reducible exact ih1 _ _ _ _ _ _ _)
   | (with_reducible exact ih2 _ _ _ _ _)
   | (with_reducible exact ih3 _ _ _ _ _ _ _ _ _)
   | (with_reducible exact ih4 _ _ _ _ _ _ _ _ _ _ _ _ _)
   | (with_reducible exact ih5 _ _ _ _ _ _ _ _ _)
   | (with_reducible exact ih6 _ _ _ _ _ _ _ _ _)
   | (with_reducible exact ih7 _ _ _ _ _ _ _ _ _)
   | (with_reducible exact ih8 _ _ _ _ _ _ _ _ _ _ _ _ _ _)
   | (with_reducible exact ih9 _ _ _ _ _ _ _ _ _ _ _ _ _ _ _ _ _ _ _ _)
   | (with_reducible exact impl_ChecksOk.mono _ _ _)
   | (with_reducible exact impl_fails.mono _ _ _)
   | (with_reducible exact impl_within.mono _ _ _)
   | (with_reducible exact LeO.refl _)
   | (with_reducible exact LeO.none _)
   | (with_reducible refine LeO.ite ?_ ?_)
   | (with_reducible refine LeO.bind ?_ (fun _ => ?_))
theorem impl_PassHints.mono : ∀ a0 a1 a2 k, LeO (impl_PassHints.f k a0 a1 a2) (impl_PassHints.f (k + 1) a0 a1 a2) := by
 intro a0 a1 a2 k
 obtain ⟨ih0, ih1, ih2, ih3, ih4, ih5, ih6, ih7, ih8, ih9⟩ := impl_PassHints.mono_l k
 unfold impl_PassHints.f
 repeat' first
  | (with_reducible exact ih0 _ _ _ _)
  | (with_reducible exact ih1 _ _ _ _ _ _ _)
  | (with_reducible exact ih2 _ _ _ _ _)
  | (with_reducible exact ih3 _ _ _ _ _ _ _ _ _)
  | (with_reducible exact ih4 _ _ _ _ _ _ _ _ _ _ _ _ _)
  | (with_reducible exact ih5 _ _ _ _ _ _ _ _ _)
  | (with_reducible exact ih6 _ _ _ _ _ _ _ _ _)
  | (with_reducible exact ih7 _ _ _ _ _ _ _ _ _)
  | (with_reducible exact ih8 _ _ _ _ _ _ _ _ _ _ _ _ _ _)
  | (with_reducible exact ih9 _ _ _ _ _ _ _ _ _ _ _ _ _ _ _ _ _ _ _ _)
  | (with_reducible exact impl_ChecksOk.mono _ _ _)
  | (with_reducible exact impl_fails.mono _ _ _)
  | (with_reducible exact impl_within.mono _ _ _)
  | (with_reducible exact LeO.refl _)
  | (with_reducible exact LeO.none _)
  | (with_reducible refine LeO.ite ?_ ?_)
  | (with_reducible refine LeO.bind ?_ (fun _ => ?_))
def impl_PassHints.T18 : Bool × List (List Nat × List Nat) := (true, [([], []), ([], []), ([0, 1], [0, 1]), ([2], [2]), ([], []), ([], []), ([4, 5], [4, 5]), ([6], [6]), ([], []), ([7, 8], [7, 8]), ([9], [9]), ([3, 10], [3, 10]), ([0, 1, 0, 1, 2, 3, 4, 5, 6, 7, 8, 9, 10, 11], [0, 1]), ([12, 11, 0, 1, 2, 3, 4, 5, 6, 7, 8, 9, 10, 11], [11, 12])])
def impl_PassHints.B18 : List Nat := [0, 0, 3, 7, 0, 0, 48, 112, 0, 496, 1008, 2047, 4095, 8191]
theorem impl_PassHints.tab18 : rtab .any (opsOf Try.f22 18) = impl_PassHints.T18 := by kernel_rfl
theorem impl_PassHints.bits18 : waitsOk impl_PassHints.T18.2 impl_PassHints.B18 = true := by kernel_rfl
def impl_PassHints.T43 : Bool × List (List Nat × List Nat) := (true, [([], []), ([], []), ([0, 1], [0, 1]), ([2], [2]), ([], []), ([], []), ([4, 5], [4, 5]), ([6], [6]), ([], []), ([7, 8], [7, 8]), ([9], [9]), ([3, 10], [3, 10]), ([11, 0, 1, 2, 3, 4, 5, 6, 7, 8, 9, 10, 11], [11])])
def impl_PassHints.B43 : List Nat := [0, 0, 3, 7, 0, 0, 48, 112, 0, 496, 1008, 2047, 4095]
theorem impl_PassHints.tab43 : rtab .any (opsOf Try.f22 43) = impl_PassHints.T43 := by kernel_rfl
theorem impl_PassHints.bits43 : waitsOk impl_PassHints.T43.2 impl_PassHints.B43 = true := by kernel_rfl
set_option maxHeartbeats 8000000 in
set_option maxRecDepth 100000 in
theorem impl_PassHints.calls (k : Nat) (A0 : Option Addr) (c0 : Nat) (l0 : List (List Int)) (A1 : Option Addr) (c1 : Nat) (l1 : List Int) (a2 : Int) (r1 : List Int) (r2 : Int) (r3 : Bool) (w : World) (hr0 : Kd.C (Kd.slice 3 (Kd.int .i64)) w A0 l0.length l0) (hc0 : l0.length ≤ c0) (hr1 : Kd.C (Kd.int .i64) w A1 l1.length l1) (hc1 : l1.length ≤ c1) (h : impl_PassHints.f k l0 l1 a2 = some (r1, r2, r3)) :
 Calls Try.prog 22 #[.slice A0 l0.length c0, .slice A1 l1.length c1, .int .i64 a2] w fun e w' => ∃ v0_ : Value, e = .returned (.tuple #[v0_, .int .i64 r2, .bool r3]) ∧ Kd.R (Kd.int .i64) 3 w' w.heap.size (fun _ => True) v0_ r1 ∧ Below w.heap.size w w' := by
 have HR0 := zM hr0
 have HC0 := zM hc0
 clear hr0 hc0
 have HR1 := zM hr1
 have HC1 := zM hc1
 clear hr1 hc1
 have HB := zM (Below.refl w.heap.size w)
 have H : ((impl_ChecksOk.f k l0 (l1.length : Int)).bind fun t273 => (if t273 = true then ((impl_within.f k l1 1000).bind fun t274 => (if t274 = true then ((impl_roundsOk.f a2).bind fun t275 => (impl_PassHints.j0 k l0 l1 a2 (!t275))) else (impl_PassHints.j0 k l0 l1 a2 true))) else (impl_PassHints.j0 k l0 l1 a2 true))) = some (r1, r2, r3) := h
 clear h
 have HC4 := zM H
 clear H
 go_enter Try.func22, Try.ntmps22
 go_upto_region 1 with (fail)
 go_cut [45] (fun v45 wc => ∃ (kq : Nat) (x45_3 : Bool), v45 = .bool x45_3 ∧ Aside0 (impl_PassHints.j0 kq l0 l1 a2 x45_3 = some (r1, r2, r3)) ∧ Aside0 (kq ≤ k) ∧ Aside0 (Below w.heap.size w wc))
 case first =>
  have H := HC4.out
  clear HC4
  replace H := zO.mp H
  obtain ⟨t273, A50, H⟩ := H
  replace H : (if t273 = true then ((impl_within.f k l1 1000).bind fun t274 => (if t274 = true then ((impl_roundsOk.f a2).bind fun t275 => (impl_PassHints.j0 k l0 l1 a2 (!t275))) else (impl_PassHints.j0 k l0 l1 a2 true))) else (impl_PassHints.j0 k l0 l1 a2 true)) = some (r1, r2, r3) := H
  have A5 := zM A50
  clear A50
  by_cases c6 : t273 = true
  case neg =>
   replace c6 := Bool.eq_false_iff.mpr c6
   subst c6
   have H1 : (impl_PassHints.j0 k l0 l1 a2 true) = some (r1, r2, r3) := by rw [if_neg (show ¬ (false = true) by decide)] at H; exact H
   clear H
   have H := H1
   clear H1
   have H' := zM H
   clear H
   go_wp2_with (first | ((with_reducible refine gate_callee (f := 36) rfl ?_); refine goesL_ (some 34) rfl rfl Try.func36 (by kernel_rfl) rfl #[.slice A0 l0.length c0, .int .i64 (l1.length : Int)] rfl (by (try simp only [List.map_toArray, List.map_cons, List.map_nil]); first | done | rfl | (simp only [List.length_drop, List.length_take]; rfl)) ?_; (with_reducible refine (impl_ChecksOk.calls k _ _ l0 (l1.length : Int) false _ ?side1 ?side2 A5.out).mono ?_); (case side1 => repeat (first | exact (Kd.C_below HR0.out HB.out) | (with_reducible first | refine zCa ?_ _ | refine zCn ?_ _ | refine zCd ?_))); (case side2 => exact HC0.out); rintro e w' ⟨rfl, ⟨nd, rfl⟩⟩; refine ⟨_, rfl, ?_⟩))
   go_meet
   case rel => exact ⟨_, (true), (by first | rfl | (simp; done) | (simp [*]; done)), H', ⟨by first | omega | exact Nat.le_refl _⟩, ⟨by repeat (first | (with_reducible first | exact HB.out | apply zBa | apply zBn | apply zBd) | exact HB.out)⟩⟩
  subst c6
  have H1 : ((impl_within.f k l1 1000).bind fun t274 => (if t274 = true then ((impl_roundsOk.f a2).bind fun t275 => (impl_PassHints.j0 k l0 l1 a2 (!t275))) else (impl_PassHints.j0 k l0 l1 a2 true))) = some (r1, r2, r3) := by rw [if_pos rfl] at H; exact H
  clear H
  have H := H1
  clear H1
  replace H := zO.mp H
  obtain ⟨t274, A70, H⟩ := H
  replace H : (if t274 = true then ((impl_roundsOk.f a2).bind fun t275 => (impl_PassHints.j0 k l0 l1 a2 (!t275))) else (impl_PassHints.j0 k l0 l1 a2 true)) = some (r1, r2, r3) := H
  have A7 := zM A70
  clear A70
  by_cases c8 : t274 = true
  case neg =>
   replace c8 := Bool.eq_false_iff.mpr c8
   subst c8
   have H1 : (impl_PassHints.j0 k l0 l1 a2 true) = some (r1, r2, r3) := by rw [if_neg (show ¬ (false = true) by decide)] at H; exact H
   clear H
   have H := H1
   clear H1
   have H' := zM H
   clear H
   go_wp2_with (first | ((with_reducible refine gate_callee (f := 36) rfl ?_); refine goesL_ (some 34) rfl rfl Try.func36 (by kernel_rfl) rfl #[.slice A0 l0.length c0, .int .i64 (l1.length : Int)] rfl (by (try simp only [List.map_toArray, List.map_cons, List.map_nil]); first | done | rfl | (simp only [List.length_drop, List.length_take]; rfl)) ?_; (with_reducible refine (impl_ChecksOk.calls k _ _ l0 (l1.length : Int) true _ ?side1 ?side2 A5.out).mono ?_); (case side1 => repeat (first | exact (Kd.C_below HR0.out HB.out) | (with_reducible first | refine zCa ?_ _ | refine zCn ?_ _ | refine zCd ?_))); (case side2 => exact HC0.out); rintro e w' ⟨rfl, ⟨nd, rfl⟩⟩; refine ⟨_, rfl, ?_⟩) | (go_at_call 45; (with_reducible refine (impl_within.calls k _ _ l1 1000 false _ ?side1 ?side2 A7.out).mono ?_); (case side1 => repeat (first | exact (Kd.C_below HR1.out (by repeat (first | (with_reducible first | exact HB.out | apply zBa | apply zBn | apply zBd) | exact HB.out))) | (with_reducible first | refine zCa ?_ _ | refine zCn ?_ _ | refine zCd ?_))); (case side2 => exact HC1.out); rintro e w' ⟨rfl, ⟨nd, rfl⟩⟩))
   go_meet
   case rel => exact ⟨_, (true), (by first | rfl | (simp; done) | (simp [*]; done)), H', ⟨by first | omega | exact Nat.le_refl _⟩, ⟨by repeat (first | (with_reducible first | exact HB.out | apply zBa | apply zBn | apply zBd) | exact HB.out)⟩⟩
  subst c8
  have H1 : ((impl_roundsOk.f a2).bind fun t275 => (impl_PassHints.j0 k l0 l1 a2 (!t275))) = some (r1, r2, r3) := by rw [if_pos rfl] at H; exact H
  clear H
  have H := H1
  clear H1
  replace H := zO.mp H
  obtain ⟨t275, A90, H⟩ := H
  replace H : (impl_PassHints.j0 k l0 l1 a2 (!t275)) = some (r1, r2, r3) := H
  have A9 := zM A90
  clear A90
  have H' := zM H
  clear H
  go_wp2_with (first | ((with_reducible refine gate_callee (f := 36) rfl ?_); refine goesL_ (some 34) rfl rfl Try.func36 (by kernel_rfl) rfl #[.slice A0 l0.length c0, .int .i64 (l1.length : Int)] rfl (by (try simp only [List.map_toArray, List.map_cons, List.map_nil]); first | done | rfl | (simp only [List.length_drop, List.length_take]; rfl)) ?_; (with_reducible refine (impl_ChecksOk.calls k _ _ l0 (l1.length : Int) true _ ?side1 ?side2 A5.out).mono ?_); (case side1 => repeat (first | exact (Kd.C_below HR0.out HB.out) | (with_reducible first | refine zCa ?_ _ | refine zCn ?_ _ | refine zCd ?_))); (case side2 => exact HC0.out); rintro e w' ⟨rfl, ⟨nd, rfl⟩⟩; refine ⟨_, rfl, ?_⟩) | (go_at_call 45; (with_reducible refine (impl_within.calls k _ _ l1 1000 true _ ?side1 ?side2 A7.out).mono ?_); (case side1 => repeat (first | exact (Kd.C_below HR1.out (by repeat (first | (with_reducible first | exact HB.out | apply zBa | apply zBn | apply zBd) | exact HB.out))) | (with_reducible first | refine zCa ?_ _ | refine zCn ?_ _ | refine zCd ?_))); (case side2 => exact HC1.out); rintro e w' ⟨rfl, ⟨nd, rfl⟩⟩) | (go_at_call 39; (with_reducible refine (impl_roundsOk.calls a2 t275 _ A9.out).mono ?_); rintro e w' ⟨rfl, ⟨nd, rfl⟩⟩))
  go_meet
  case rel => exact ⟨_, (!t275), (by first | rfl | (simp; done) | (simp [*]; done)), H', ⟨by first | omega | exact Nat.le_refl _⟩, ⟨by repeat (first | (with_reducible first | exact HB.out | apply zBa | apply zBn | apply zBd) | exact HB.out)⟩⟩
 case rest =>
  clear HC4
  try clear c1
  try clear c2
  try clear p2
  try clear c3
  try clear c6
  try clear c8
  obtain ⟨kq, x45_3, rfl, HA, HJ3, HB⟩ := hcut
  cases kq with
  | zero => exact absurd HA.out (by simp [impl_PassHints.j0])
  | succ kj3 =>
   have H := HA.out
   clear HA
   simp only [impl_PassHints.j0] at H
   by_cases c10 : x45_3 = true
   case pos =>
    subst c10
    have H1 : (some (([] : List Int), 0, false)) = some (r1, r2, r3) := by rw [if_pos rfl] at H; exact H
    clear H
    have H := H1
    clear H1
    simp only [Option.some.injEq, Prod.mk.injEq] at H
    obtain ⟨rfl, rfl, rfl⟩ := H
    go_wp2
    go_ret3
    exact ⟨_, by first | rfl | (simp [errW_none, errW_some] <;> rfl) | (simp [*, errW_none, errW_some] <;> rfl), by first | exact Kd.R_nil _ _ _ _ _ | exact Kd.N_nil _ _ _ _ _ | exact Kd.V_nil _ _ _ _ _ | exact Kd.Q_nil _ _ _ _ _ | exact Kd.S_nil _ _ _ _ _, by repeat (first | (with_reducible first | exact HB.out | apply zBa | apply zBn | apply zBd) | exact HB.out)⟩
   replace c10 := Bool.eq_false_iff.mpr c10
   subst c10
   have H1 : (if 0 ≤ (l0.length : Int) then (if ((l0.length : Int) : Int).toNat ≤ 11728124029610 then (impl_PassHints.l0 kj3 l0 l1 a2 (List.replicate ((l0.length : Int) : Int).toNat []) l0 (l0.length : Int) 0) else (none)) else (none)) = some (r1, r2, r3) := by rw [if_neg (show ¬ (false = true) by decide)] at H; exact H
   clear H
   have H := H1
   clear H1
   by_cases c11 : 0 ≤ (l0.length : Int)
   case neg =>
    rw [if_neg c11] at H
    exact absurd H (by simp)
   rw [if_pos c11] at H
   have c11b0 := eq_true c11
   have c11b1 : decide (0 ≤ (l0.length : Int)) = true := zE c11
   clear c11
   by_cases c12 : ((l0.length : Int) : Int).toNat ≤ 11728124029610
   case neg =>
    rw [if_neg c12] at H
    exact absurd H (by simp)
   rw [if_pos c12] at H
   have c12b0 := eq_true c12
   have c12b1 : decide (((l0.length : Int) : Int).toNat ≤ 11728124029610) = true := zE c12
   clear c12
   obtain ⟨y276, hy276⟩ : ∃ y_ : List (List Int), y_ = (List.replicate ((l0.length : Int) : Int).toNat []) := ⟨_, rfl⟩
   replace H : (impl_PassHints.l0 kj3 l0 l1 a2 y276 l0 (l0.length : Int) 0) = some (r1, r2, r3) := by first | (rw [hy276]; with_reducible exact H) | (have H2_ := (Option.bind_some _ _).symm.trans H; rw [hy276]; with_reducible exact H2_) | (have H2_ := (Option.bind_some _ _).symm.trans H; with_reducible exact H2_) | with_reducible exact H | (rw [hy276]; exact H) | exact H
   have Ny276 := zM hy276
   clear hy276
   have H' := zM H
   clear H
   go_wp2_with (first | ((with_reducible refine gate_dst (N := 48) rfl ?_); refine Kd.S_make (Kd.slice 3 (Kd.int .i64)) _ 23 rfl (N := 48) rfl 22 _ _ rfl (l0.length : Int) rfl rfl Try.underlying22 (.slice none 0 0) 24 info23 rfl (by decide) (by omega) [] (ok := fun _ => True) (okp := fun _ => True) ⟨_, rfl, Kd.R_nil _ _ _ _ _⟩ (fun _ hk => hk) trivial (zT (by assumption)) (Nat.le_trans (Nat.mul_le_mul_right _ (zT (by assumption) : (l0.length : Int).toNat ≤ 11728124029610)) (by omega)) (Below.refl _ _) (Nat.le_refl _) ?_; intro v277 w13 ho14 hb hg_ hnew_; clear hg_ hnew_; (first | rw [← Ny276.out] at ho14 | (simp only [Int.reduceToNat] at ho14; rw [← Ny276.out] at ho14)); have n0_ := zM (Kd.S_lower ho14 (below_size (by repeat (first | (with_reducible first | exact HB.out | apply zBa | apply zBn | apply zBd) | exact HB.out)))); have n1_ := zM (below_step (by repeat (first | (with_reducible first | exact HB.out | apply zBa | apply zBn | apply zBd) | exact HB.out)) hb); clear HB; have HO278 := n0_; have HB := n1_; clear n0_ n1_; clear hb ho14))
   (try simp only [Act.put, zS1, zS2, zS3])
   go_loopg [51] kj3 (fun kq v51 w' => ∃ (x9_2 : List (List Int)) (x51_2 : Int), v51 = .int .i64 x51_2 ∧ Aside0 (impl_PassHints.l0 kq l0 l1 a2 x9_2 l0 (l0.length : Int) x51_2 = some (r1, r2, r3)) ∧ Aside0 (kq ≤ kj3) ∧ Aside0 (Kd.S (Kd.slice 3 (Kd.int .i64)) 23 w' w.heap.size (fun _ => True) v277 x9_2) ∧ Aside0 (Below w.heap.size w w'))
   case atStart => exact ⟨(y276), (0), (by first | rfl | (simp; done) | (simp [*]; done)), H', ⟨Nat.le_refl _⟩, ⟨by (with_reducible repeat (first | apply Kd.S_alloc | apply Kd.S_drewN | apply Kd.S_drew)); first | exact HO278.out | (subst_vars; exact HO278.out)⟩, ⟨by repeat (first | (with_reducible first | exact HB.out | apply zBa | apply zBn | apply zBd) | exact HB.out)⟩⟩
   case round =>
    clear H'
    try clear c1
    try clear c2
    try clear p2
    try clear c3
    try clear c6
    try clear c8
    try clear c10
    try clear c11
    try clear c11b0
    try clear c11b1
    try clear c12
    try clear c12b0
    try clear c12b1
    try clear p2
    obtain ⟨x9_2, x51_2, rfl, HA, HK2, HO_9, HB⟩ := hrel
    cases gk with
    | zero => exact absurd HA.out (by simp [impl_PassHints.l0])
    | succ k2 =>
     have H := HA.out
     clear HA
     simp only [impl_PassHints.l0] at H
     by_cases c15 : x51_2 < (l0.length : Int)
     case pos =>
      rw [if_pos c15] at H
      have c15b0 : decide (x51_2 < (l0.length : Int)) = true := zE c15
      clear c15
      by_cases c16 : 0 ≤ x51_2
      case neg =>
       rw [if_neg c16] at H
       exact absurd H (by simp)
      rw [if_pos c16] at H
      have c16b0 : decide (0 ≤ x51_2) = true := zE c16
      clear c16
      by_cases c17 : x51_2 < (l0.length : Int)
      case neg =>
       rw [if_neg c17] at H
       exact absurd H (by simp)
      rw [if_pos c17] at H
      have c17b0 : decide (x51_2 < (l0.length : Int)) = true := zE c17
      clear c17
      by_cases c18 : 0 ≤ ((rd_L1 l0 x51_2).length : Int)
      case neg =>
       rw [if_neg c18] at H
       exact absurd H (by simp)
      rw [if_pos c18] at H
      have c18b0 := eq_true c18
      have c18b1 : decide (0 ≤ ((rd_L1 l0 x51_2).length : Int)) = true := zE c18
      clear c18
      by_cases c19 : (((rd_L1 l0 x51_2).length : Int) : Int).toNat ≤ 35184372088832
      case neg =>
       rw [if_neg c19] at H
       exact absurd H (by simp)
      rw [if_pos c19] at H
      have c19b0 := eq_true c19
      have c19b1 : decide ((((rd_L1 l0 x51_2).length : Int) : Int).toNat ≤ 35184372088832) = true := zE c19
      clear c19
      obtain ⟨y280, hy280⟩ : ∃ y_ : List Int, y_ = (List.replicate (((rd_L1 l0 x51_2).length : Int) : Int).toNat 0) := ⟨_, rfl⟩
      replace H : (if x51_2 < (x9_2.length : Int) then (impl_PassHints.l0 k2 l0 l1 a2 (x9_2.set (x51_2 : Int).toNat y280) l0 (l0.length : Int) (wrap64 (x51_2 + 1))) else (none)) = some (r1, r2, r3) := by first | (rw [hy280]; with_reducible exact H) | (have H2_ := (Option.bind_some _ _).symm.trans H; rw [hy280]; with_reducible exact H2_) | (have H2_ := (Option.bind_some _ _).symm.trans H; with_reducible exact H2_) | with_reducible exact H | (rw [hy280]; exact H) | exact H
      have Ny280 := zM hy280
      clear hy280
      by_cases c20 : x51_2 < (x9_2.length : Int)
      case neg =>
       rw [if_neg c20] at H
       exact absurd H (by simp)
      rw [if_pos c20] at H
      have c20b0 : decide (x51_2 < (x9_2.length : Int)) = true := zE c20
      clear c20
      obtain ⟨y283, hy283⟩ : ∃ y_ : List (List Int), y_ = (x9_2.set (x51_2 : Int).toNat y280) := ⟨_, rfl⟩
      replace H : (impl_PassHints.l0 k2 l0 l1 a2 y283 l0 (l0.length : Int) (wrap64 (x51_2 + 1))) = some (r1, r2, r3) := by first | (rw [hy283]; with_reducible exact H) | (have H2_ := (Option.bind_some _ _).symm.trans H; rw [hy283]; with_reducible exact H2_) | (have H2_ := (Option.bind_some _ _).symm.trans H; with_reducible exact H2_) | with_reducible exact H | (rw [hy283]; exact H) | exact H
      have Ny283 := zM hy283
      clear hy283
      have H' := zM H
      clear H
      have p279 : 0 ≤ (x51_2 : Int) := zT (by assumption)
      have q279 : x51_2 < (l0.length : Int) := zT (by assumption)
      obtain ⟨ad279, A279_0, c279_0, e279, hx279_0, hl279_0, hi279_0⟩ := at_L1 HR0.out x51_2 p279 q279
      cases e279
      replace hx279_0 := (HB.out.cell (zW w _ hx279_0)).trans hx279_0
      have HR279_0 := zM hi279_0
      have HC279_0 := zM hl279_0
      clear hi279_0 hl279_0
      replace p279 := eq_true p279
      replace q279 := eq_true q279
      go_wp2_with (first | ((with_reducible refine gate_dst (N := 60) rfl ?_); refine Kd.R_make (Kd.int .i64) _ 3 rfl (N := 60) rfl 23 _ _ rfl ((rd_L1 l0 x51_2).length : Int) rfl rfl Try.underlying23 (.int .i64 0) 8 info3 rfl (by decide) (by omega) 0 (ok := fun _ => True) (okp := fun _ => True) rfl (fun _ hk => hk) trivial (zT (by assumption)) (Nat.le_trans (Nat.mul_le_mul_right _ (zT (by assumption) : ((rd_L1 l0 x51_2).length : Int).toNat ≤ 35184372088832)) (by omega)) (Below.refl _ _) (Nat.le_refl _) ?_; intro v281 w22 ho23 hb hg_ hnew_; clear hg_ hnew_; (first | rw [← Ny280.out] at ho23 | (simp only [Int.reduceToNat] at ho23; rw [← Ny280.out] at ho23)); have n0_ := zM (Kd.S_elder' (by (with_reducible repeat (first | apply Kd.S_alloc | apply Kd.S_drewN | apply Kd.S_drew)); first | exact HO_9.out | (subst_vars; exact HO_9.out)) (Kd.R_base ho23) hb); have n1_ := zM (Kd.R_lower ho23 (below_size (by repeat (first | (with_reducible first | exact HB.out | apply zBa | apply zBn | apply zBd) | exact HB.out)))); have n2_ := zM (below_step (by repeat (first | (with_reducible first | exact HB.out | apply zBa | apply zBn | apply zBd) | exact HB.out)) hb); clear HO_9; clear HB; have HO_9 := n0_; have HO282 := n1_; have HB := n2_; clear n0_ n1_ n2_; clear hb ho23; have p21 : 0 ≤ (x51_2 : Int) := zT (by assumption); have q21 : (x51_2 : Int) < ((x9_2.length : Int) : Int) := zT (by assumption); obtain ⟨go21, co21, eo21, gb21, gl21, cl21, HG21⟩ := Kd.S_form HO_9.out (by omega); (first | cases eo21 | (injection eo21 with ea_ en_ ec_; (first | subst ea_ | (injection ea_ with ea_; subst ea_)); subst ec_; clear en_)); have GB21 := zM gb21; have GG21 := zM HG21; clear gb21 gl21 HG21; obtain ⟨_, ce21, hcl21, hM21, hcc21, hfr21, _, _⟩ := Kd.S_elem HO_9.out [] (x51_2 : Int) p21 q21; obtain ⟨ve21_0, rfl, ge21_0⟩ := hM21; have hx21_0 := hcc21 0 _ rfl; have hf21_0 := hfr21 0; (try simp only [show ((Kd.slice 3 (Kd.int .i64))).sz = 1 from rfl, Nat.mul_one, Nat.add_zero] at hx21_0); (try simp only [show ((Kd.slice 3 (Kd.int .i64))).sz = 1 from rfl, Nat.mul_one, Nat.add_zero] at hf21_0); (try clear hcl21 hcc21 hfr21); (try clear hM21); replace p21 := eq_true p21; replace q21 := eq_true q21; have n_ := zM (Kd.S_mono (ok' := (fun k_ => some k_ ≠ (v281 : Value).ownBlock)) HO_9.out (fun k_ hk => hk.2)); clear HO_9; have HO_9 := n_; clear n_; have HX24 := zM (show Kd.S (Kd.slice 3 (Kd.int .i64)) 23 w22 w.heap.size (fun k_ => ((fun _ => True)) k_ ∧ ¬ ((fun k_ => some k_ = (v281 : Value).ownBlock)) k_) (.slice (some ⟨go21, 0, none⟩) x9_2.length co21) x9_2 from (by (with_reducible repeat (first | apply Kd.S_alloc | apply Kd.S_drewN | apply Kd.S_drew)); exact Kd.S_mono HO_9.out (fun k_ hk => ⟨trivial, fun e_ => hk e_⟩))); obtain ⟨oki24, ce24, hcl24, hM24, hcc24, hfr24, hoki24, hH24⟩ := Kd.S_elem HX24.out [] (x51_2 : Int) (zT (by assumption)) (by have h_ : (x51_2 : Int) < ((x9_2.length : Int) : Int) := zT (by assumption); first | exact h_ | (have e_ := (Kd.S_reads' HO_9.out).1; omega) | simpa using h_); obtain ⟨ve24_0, rfl, ge24_0⟩ := hM24; have HP24 := Kd.S_seg hH24 (zT (by assumption)) (by have h_ : (x51_2 : Int) < ((x9_2.length : Int) : Int) := zT (by assumption); first | exact h_ | (have e_ := (Kd.S_reads' HO_9.out).1; omega) | simpa using h_) (seg := [v281]) (j := 0) (show 1 ≤ 1 from by decide) (x' := y280) (Kd.M_row (Kd.R_mono (Kd.R_tight rfl (Kd.R_mono (ok' := fun k_ => ((fun _ => True)) k_ ∧ k_ ≠ go21) (Kd.R_apart' (HO282.out) (Kd.S_typed HO_9.out) (by decide)) (fun k_ hk => ⟨trivial, fun e_ => (hk.2) (by rw [e_]; rfl)⟩))) (fun _ h_ => Or.inr (h_)))) (fun _ hk => hk) (fun k_ hk_ => ((Kd.R_mono (ok' := fun k_ => ((fun _ => True)) k_ ∧ k_ ≠ go21) (Kd.R_apart' (HO282.out) (Kd.S_typed HO_9.out) (by decide)) (fun k_ hk => ⟨trivial, fun e_ => (hk.2) (by rw [e_]; rfl)⟩))).1 k_ hk_.symm); have hx24_0 := hcc24 0 _ rfl; (try simp only [show ((Kd.slice 3 (Kd.int .i64))).sz = 1 from rfl, Nat.mul_one, Nat.add_zero] at hx24_0); have hf24_0 := hfr24 0; (try simp only [show ((Kd.slice 3 (Kd.int .i64))).sz = 1 from rfl, Nat.mul_one, Nat.add_zero] at hf24_0); (try clear hcl24 hcc24 hfr24 hoki24 hH24); (try clear hM24); (try simp only [show ((Kd.slice 3 (Kd.int .i64))).sz = 1 from rfl, Nat.mul_one, Nat.add_zero] at HP24)) | ((with_reducible refine gate_store (t := 23) (p := 61) rfl ?_); refine store_event (t := 23) (p := 61) (v := ?vo_w25) (w1 := (w22.setCell ⟨go21, (x51_2 : Int).toNat, none⟩ (v281))) ?hg ?ho ?hn ?hr ?_; (case ho => rfl); (case hg => rfl); (case hn => rfl); (case hr => first | (go_simp; done) | (go_simp; rfl) | (obtain ⟨_, _, eo_⟩ := Kd.R_slice HO282.out; subst eo_; first | (go_simp; done) | (go_simp; rfl))); intro w25 hw; have hg : w22.grownBy w25 (some go21) := (by rw [hw]; exact HP24.2); have hp_ : Kd.S (Kd.slice 3 (Kd.int .i64)) 23 w25 w.heap.size (fun _ => True) (.slice (some ⟨go21, 0, none⟩) x9_2.length co21) y283 := (by rw [hw, Ny283.out]; exact HP24.1); clear HP24; have n0_ := zM (hp_); have n1_ := zM ((by rw [hw]; exact zBs (HB.out) GB21.out : Below w.heap.size w w25)); clear HO_9; clear HB; clear HO282; have HO_9 := n0_; have HB := n1_; clear n0_ n1_; clear hg hw hp_))
      go_roundg k2
      case measure => have := HJ3.out; have := HK2.out; omega
      case rel => exact ⟨(y283), (wrap64 (x51_2 + 1)), (by first | rfl | (simp; done) | (simp [*]; done)), H', ⟨by have := HJ3.out; have := HK2.out; omega⟩, ⟨by (with_reducible repeat (first | apply Kd.S_alloc | apply Kd.S_drewN | apply Kd.S_drew)); first | exact HO_9.out | (subst_vars; exact HO_9.out)⟩, ⟨by repeat (first | (with_reducible first | exact HB.out | apply zBa | apply zBn | apply zBd) | exact HB.out)⟩⟩
     rw [if_neg c15] at H
     have c15b0 : decide (x51_2 < (l0.length : Int)) = false := decide_eq_false c15
     clear c15
     have H' := zM H
     clear H
     go_wp2
     (try simp only [Act.put, zS1, zS2, zS3])
     go_loopg [12] k2 (fun kq v12 w' => ∃ (x9_3 : List (List Int)) (x12_3 : Int), v12 = .int .i64 x12_3 ∧ Aside0 (impl_PassHints.l1 kq l0 l1 a2 x9_3 x12_3 = some (r1, r2, r3)) ∧ Aside0 (kq ≤ k2) ∧ Aside0 (Kd.S (Kd.slice 3 (Kd.int .i64)) 23 w' w.heap.size (fun _ => True) v277 x9_3) ∧ Aside0 (Below w.heap.size w w'))
     case atStart => exact ⟨(x9_2), (0), (by first | rfl | (simp; done) | (simp [*]; done)), H', ⟨Nat.le_refl _⟩, ⟨by (with_reducible repeat (first | apply Kd.S_alloc | apply Kd.S_drewN | apply Kd.S_drew)); first | exact HO_9.out | (subst_vars; exact HO_9.out)⟩, ⟨by repeat (first | (with_reducible first | exact HB.out | apply zBa | apply zBn | apply zBd) | exact HB.out)⟩⟩
     case round =>
      clear H'
      try clear c1
      try clear c2
      try clear p2
      try clear q2
      try clear hx2
      try clear c3
      try clear c6
      try clear p6
      try clear c8
      try clear c10
      try clear c11
      try clear c11b0
      try clear c11b1
      try clear c12
      try clear c12b0
      try clear c12b1
      try clear c15
      try clear c15b0
      try clear c16
      try clear c16b0
      try clear c17
      try clear c17b0
      try clear c18
      try clear c18b0
      try clear c18b1
      try clear c19
      try clear c19b0
      try clear c19b1
      try clear c20
      try clear c20b0
      try clear c21
      try clear p21
      try clear q21
      try clear hx21
      try clear hf21
      try clear c22
      try clear c24
      try clear hx24
      try clear hf24
      try clear hx21_0
      try clear hx24_0
      try clear hx279_0
      try clear p2
      try clear p21
      try clear p279
      try clear q21
      try clear q279
      obtain ⟨x9_3, x12_3, rfl, HA, HK3, HO_9, HB⟩ := hrel
      cases gk with
      | zero => exact absurd HA.out (by simp [impl_PassHints.l1])
      | succ k3 =>
       have H := HA.out
       clear HA
       simp only [impl_PassHints.l1] at H
       replace H := zO.mp H
       obtain ⟨t284, A260, H⟩ := H
       replace H : (impl_PassHints.l2 k3 l0 l1 a2 x9_3 x12_3 t284 l0 (l0.length : Int) 0) = some (r1, r2, r3) := H
       have A26 := zM A260
       clear A260
       have H' := zM H
       clear H
       go_wp2_with (first | ((with_reducible refine gate_callee (f := 40) rfl ?_); refine goesL_ (some 66) rfl rfl Try.func40 (by kernel_rfl) rfl #[.slice A1 l1.length c1] rfl (by (try simp only [List.map_toArray, List.map_cons, List.map_nil]); first | done | rfl | (simp only [List.length_drop, List.length_take]; rfl)) ?_; (with_reducible refine (slices_Clone_int_int.calls _ _ l1 t284 _ ?side1 ?side2 A26.out).mono ?_); (case side1 => repeat (first | exact (Kd.C_below HR1.out HB.out) | (with_reducible first | refine zCa ?_ _ | refine zCn ?_ _ | refine zCd ?_))); (case side2 => exact HC1.out); rintro e w27 ⟨v285, rfl, ho0, hb⟩; refine ⟨_, rfl, ?_⟩; have n0_ := zM (Kd.S_elder' (by (with_reducible repeat (first | apply Kd.S_alloc | apply Kd.S_drewN | apply Kd.S_drew)); first | exact HO_9.out | (subst_vars; exact HO_9.out)) (Kd.R_base ho0) hb); have n1_ := zM (Kd.R_lower ho0 (below_size (by repeat (first | (with_reducible first | exact HB.out | apply zBa | apply zBn | apply zBd) | exact HB.out)))); have n2_ := zM (below_step (by repeat (first | (with_reducible first | exact HB.out | apply zBa | apply zBn | apply zBd) | exact HB.out)) hb); clear HO_9; clear HB; have HO_9 := n0_; have HO286 := n1_; have HB := n2_; clear n0_ n1_ n2_; (try clear hb); (try clear hb2); (try clear hk); (try clear hi); (try clear ho0)))
       (try simp only [Act.put, zS1, zS2, zS3])
       go_loopg [69] k3 (fun kq v69 w' => ∃ (x13_4 : List Int) (x69_4 : Int), v69 = .int .i64 x69_4 ∧ Aside0 (impl_PassHints.l2 kq l0 l1 a2 x9_3 x12_3 x13_4 l0 (l0.length : Int) x69_4 = some (r1, r2, r3)) ∧ Aside0 (kq ≤ k3) ∧ Aside0 (Kd.S (Kd.slice 3 (Kd.int .i64)) 23 w' w.heap.size (fun k_ => some k_ ≠ (v285 : Value).ownBlock) v277 x9_3) ∧ Aside0 (Kd.R (Kd.int .i64) 3 w' w.heap.size (fun _ => True) v285 x13_4) ∧ Aside0 (Below w.heap.size w w'))
       case atStart => exact ⟨(t284), (0), (by first | rfl | (simp; done) | (simp [*]; done)), H', ⟨Nat.le_refl _⟩, ⟨by (with_reducible repeat (first | apply Kd.S_alloc | apply Kd.S_drewN | apply Kd.S_drew)); first | exact Kd.S_mono HO_9.out (fun _ hk => hk.2) | (subst_vars; exact Kd.S_mono HO_9.out (fun _ hk => hk.2))⟩, ⟨by (with_reducible repeat (first | apply zRa | apply zRn | apply zRd)); first | exact HO286.out | (subst_vars; exact HO286.out)⟩, ⟨by repeat (first | (with_reducible first | exact HB.out | apply zBa | apply zBn | apply zBd) | exact HB.out)⟩⟩
       case round =>
        clear H'
        try clear c1
        try clear c2
        try clear p2
        try clear q2
        try clear hx2
        try clear c3
        try clear c4
        try clear c6
        try clear p6
        try clear c8
        try clear c10
        try clear c11
        try clear c11b0
        try clear c11b1
        try clear c12
        try clear c12b0
        try clear c12b1
        try clear c15
        try clear c15b0
        try clear c16
        try clear c16b0
        try clear c17
        try clear c17b0
        try clear c18
        try clear c18b0
        try clear c18b1
        try clear c19
        try clear c19b0
        try clear c19b1
        try clear c20
        try clear c20b0
        try clear c21
        try clear p21
        try clear q21
        try clear hx21
        try clear hf21
        try clear c22
        try clear c24
        try clear hx24
        try clear hf24
        try clear c27
        try clear p27
        try clear q27
        try clear hx27
        try clear hx21_0
        try clear hx24_0
        try clear hx279_0
        try clear p2
        try clear p21
        try clear p279
        try clear p6
        try clear q2
        try clear q21
        try clear q279
        obtain ⟨x13_4, x69_4, rfl, HA, HK4, HO_9, HO_13, HB⟩ := hrel
        cases gk with
        | zero => exact absurd HA.out (by simp [impl_PassHints.l2])
        | succ k4 =>
         have H := HA.out
         clear HA
         simp only [impl_PassHints.l2] at H
         by_cases c28 : x69_4 < (l0.length : Int)
         case pos =>
          rw [if_pos c28] at H
          have c28b0 : decide (x69_4 < (l0.length : Int)) = true := zE c28
          clear c28
          by_cases c29 : 0 ≤ x69_4
          case neg =>
           rw [if_neg c29] at H
           exact absurd H (by simp)
          rw [if_pos c29] at H
          have c29b0 : decide (0 ≤ x69_4) = true := zE c29
          clear c29
          by_cases c30 : x69_4 < (l0.length : Int)
          case neg =>
           rw [if_neg c30] at H
           exact absurd H (by simp)
          rw [if_pos c30] at H
          have c30b0 : decide (x69_4 < (l0.length : Int)) = true := zE c30
          clear c30
          have H' := zM H
          clear H
          have p287 : 0 ≤ (x69_4 : Int) := zT (by assumption)
          have q287 : x69_4 < (l0.length : Int) := zT (by assumption)
          obtain ⟨ad287, A287_0, c287_0, e287, hx287_0, hl287_0, hi287_0⟩ := at_L1 HR0.out x69_4 p287 q287
          cases e287
          replace hx287_0 := (HB.out.cell (zW w _ hx287_0)).trans hx287_0
          have HR287_0 := zM hi287_0
          have HC287_0 := zM hl287_0
          clear hi287_0 hl287_0
          replace p287 := eq_true p287
          replace q287 := eq_true q287
          go_wp2
          (try simp only [Act.put, zS1, zS2, zS3])
          go_loopg [76] k4 (fun kq v76 w' => ∃ (x13_5 : List Int) (x76_5 : Int), v76 = .int .i64 x76_5 ∧ Aside0 (impl_PassHints.l3 kq l0 l1 a2 x9_3 x12_3 x13_5 x69_4 l0 (l0.length : Int) x69_4 (rd_L1 l0 x69_4) ((rd_L1 l0 x69_4).length : Int) x76_5 = some (r1, r2, r3)) ∧ Aside0 (kq ≤ k4) ∧ Aside0 (Kd.S (Kd.slice 3 (Kd.int .i64)) 23 w' w.heap.size (fun k_ => some k_ ≠ (v285 : Value).ownBlock) v277 x9_3) ∧ Aside0 (Kd.R (Kd.int .i64) 3 w' w.heap.size (fun _ => True) v285 x13_5) ∧ Aside0 (Below w.heap.size w w'))
          case atStart => exact ⟨(x13_4), (0), (by first | rfl | (simp; done) | (simp [*]; done)), H', ⟨Nat.le_refl _⟩, ⟨by (with_reducible repeat (first | apply Kd.S_alloc | apply Kd.S_drewN | apply Kd.S_drew)); first | exact HO_9.out | (subst_vars; exact HO_9.out)⟩, ⟨by (with_reducible repeat (first | apply zRa | apply zRn | apply zRd)); first | exact HO_13.out | (subst_vars; exact HO_13.out)⟩, ⟨by repeat (first | (with_reducible first | exact HB.out | apply zBa | apply zBn | apply zBd) | exact HB.out)⟩⟩
          case round =>
           clear H'
           try clear c1
           try clear c2
           try clear p2
           try clear q2
           try clear hx2
           try clear c3
           try clear c4
           try clear c6
           try clear p6
           try clear c8
           try clear c10
           try clear c11
           try clear c11b0
           try clear c11b1
           try clear c12
           try clear c12b0
           try clear c12b1
           try clear c15
           try clear c15b0
           try clear c16
           try clear c16b0
           try clear c17
           try clear c17b0
           try clear c18
           try clear c18b0
           try clear c18b1
           try clear c19
           try clear c19b0
           try clear c19b1
           try clear c20
           try clear c20b0
           try clear c21
           try clear p21
           try clear q21
           try clear hx21
           try clear hf21
           try clear c22
           try clear c24
           try clear hx24
           try clear hf24
           try clear c27
           try clear p27
           try clear q27
           try clear hx27
           try clear c28
           try clear c28b0
           try clear p28
           try clear q28
           try clear hx28
           try clear c29
           try clear c29b0
           try clear c30
           try clear c30b0
           try clear hx21_0
           try clear hx24_0
           try clear hx279_0
           try clear hx287_0
           try clear p2
           try clear p21
           try clear p27
           try clear p279
           try clear p287
           try clear p6
           try clear q2
           try clear q21
           try clear q27
           try clear q279
           try clear q287
           obtain ⟨x13_5, x76_5, rfl, HA, HK5, HO_9, HO_13, HB⟩ := hrel
           cases gk with
           | zero => exact absurd HA.out (by simp [impl_PassHints.l3])
           | succ k5 =>
            have H := HA.out
            clear HA
            simp only [impl_PassHints.l3] at H
            by_cases c31 : x76_5 < ((rd_L1 l0 x69_4).length : Int)
            case neg =>
             rw [if_neg c31] at H
             have c31b0 : decide (x76_5 < ((rd_L1 l0 x69_4).length : Int)) = false := decide_eq_false c31
             clear c31
             have H' := zM H
             clear H
             go_wp2
             go_roundg k5
             case measure => have := HJ3.out; have := HK2.out; have := HK3.out; have := HK4.out; have := HK5.out; omega
             case rel => exact ⟨(x13_5), (wrap64 (x69_4 + 1)), (by first | rfl | (simp; done) | (simp [*]; done)), H', ⟨by have := HJ3.out; have := HK2.out; have := HK3.out; have := HK4.out; have := HK5.out; omega⟩, ⟨by (with_reducible repeat (first | apply Kd.S_alloc | apply Kd.S_drewN | apply Kd.S_drew)); first | exact HO_9.out | (subst_vars; exact HO_9.out)⟩, ⟨by (with_reducible repeat (first | apply zRa | apply zRn | apply zRd)); first | exact HO_13.out | (subst_vars; exact HO_13.out)⟩, ⟨by repeat (first | (with_reducible first | exact HB.out | apply zBa | apply zBn | apply zBd) | exact HB.out)⟩⟩
            rw [if_pos c31] at H
            have c31b0 : decide (x76_5 < ((rd_L1 l0 x69_4).length : Int)) = true := zE c31
            clear c31
            by_cases c32 : 0 ≤ x76_5
            case neg =>
             rw [if_neg c32] at H
             exact absurd H (by simp)
            rw [if_pos c32] at H
            have c32b0 : decide (0 ≤ x76_5) = true := zE c32
            clear c32
            by_cases c33 : x76_5 < ((rd_L1 l0 x69_4).length : Int)
            case neg =>
             rw [if_neg c33] at H
             exact absurd H (by simp)
            rw [if_pos c33] at H
            have c33b0 : decide (x76_5 < ((rd_L1 l0 x69_4).length : Int)) = true := zE c33
            clear c33
            by_cases c34 : 0 ≤ (rd (rd_L1 l0 x69_4) x76_5)
            case neg =>
             rw [if_neg c34] at H
             exact absurd H (by simp)
            rw [if_pos c34] at H
            have c34b0 : decide (0 ≤ (rd (rd_L1 l0 x69_4) x76_5)) = true := zE c34
            clear c34
            by_cases c35 : (rd (rd_L1 l0 x69_4) x76_5) < (x13_5.length : Int)
            case neg =>
             rw [if_neg c35] at H
             exact absurd H (by simp)
            rw [if_pos c35] at H
            have c35b0 : decide ((rd (rd_L1 l0 x69_4) x76_5) < (x13_5.length : Int)) = true := zE c35
            clear c35
            by_cases c36 : 0 ≤ x69_4
            case neg =>
             rw [if_neg c36] at H
             exact absurd H (by simp)
            rw [if_pos c36] at H
            have c36b0 : decide (0 ≤ x69_4) = true := zE c36
            clear c36
            by_cases c37 : x69_4 < (x9_3.length : Int)
            case neg =>
             rw [if_neg c37] at H
             exact absurd H (by simp)
            rw [if_pos c37] at H
            have c37b0 : decide (x69_4 < (x9_3.length : Int)) = true := zE c37
            clear c37
            by_cases c38 : x76_5 < ((rd_L1 x9_3 x69_4).length : Int)
            case neg =>
             rw [if_neg c38] at H
             exact absurd H (by simp)
            rw [if_pos c38] at H
            have c38b0 : decide (x76_5 < ((rd_L1 x9_3 x69_4).length : Int)) = true := zE c38
            clear c38
            obtain ⟨y292, hy292⟩ : ∃ y_ : List Int, y_ = (x13_5.set ((rd (rd_L1 l0 x69_4) x76_5) : Int).toNat (wrap64 ((rd x13_5 (rd (rd_L1 l0 x69_4) x76_5)) + (rd (rd_L1 x9_3 x69_4) x76_5)))) := ⟨_, rfl⟩
            replace H : (impl_PassHints.l3 k5 l0 l1 a2 x9_3 x12_3 y292 x69_4 l0 (l0.length : Int) x69_4 (rd_L1 l0 x69_4) ((rd_L1 l0 x69_4).length : Int) (wrap64 (x76_5 + 1))) = some (r1, r2, r3) := by first | (rw [hy292]; with_reducible exact H) | (have H2_ := (Option.bind_some _ _).symm.trans H; rw [hy292]; with_reducible exact H2_) | (have H2_ := (Option.bind_some _ _).symm.trans H; with_reducible exact H2_) | with_reducible exact H | (rw [hy292]; exact H) | exact H
            have Ny292 := zM hy292
            clear hy292
            have H' := zM H
            clear H
            have p288 : 0 ≤ (x76_5 : Int) := zT (by assumption)
            have q288 : x76_5 < ((rd_L1 l0 x69_4).length : Int) := zT (by assumption)
            obtain ⟨ad288, e288, hx288_0⟩ := Kd.at_int HR287_0.out x76_5 p288 q288
            cases e288
            replace hx288_0 := (HB.out.cell (zW w _ hx288_0)).trans hx288_0
            replace p288 := eq_true p288
            replace q288 := eq_true q288
            try go_wp2
            have n0_ := zM (Kd.S_drew HO_9.out)
            have n1_ := zM (zRd HO_13.out)
            have n2_ := zM (zBd HB.out)
            clear HO_9
            clear HO_13
            clear HB
            have HO_9 := n0_
            have HO_13 := n1_
            have HB := n2_
            clear n0_ n1_ n2_
            obtain ⟨Ao41, co41, eo41⟩ := Kd.R_slice HO_13.out
            (first | subst eo41 | (injection eo41 with f1_ f2_ f3_; have f4_ := f1_.symm; have f5_ := f3_.symm; clear f1_ f2_ f3_; subst f4_; subst f5_))
            have p289 : 0 ≤ ((rd (rd_L1 l0 x69_4) x76_5) : Int) := zT (by assumption)
            have q289 : (rd (rd_L1 l0 x69_4) x76_5) < (x13_5.length : Int) := zT (by assumption)
            obtain ⟨ad289, e289, hx289_0⟩ := Kd.at_int (Kd.R_reads' HO_13.out).2.2 (rd (rd_L1 l0 x69_4) x76_5) p289 q289
            cases e289
            replace p289 := eq_true p289
            replace q289 := eq_true q289
            obtain ⟨Ao42, co42, eo42⟩ := Kd.S_slice HO_9.out
            (first | subst eo42 | (injection eo42 with f1_ f2_ f3_; have f4_ := f1_.symm; have f5_ := f3_.symm; clear f1_ f2_ f3_; subst f4_; subst f5_))
            have p290 : 0 ≤ (x69_4 : Int) := zT (by assumption)
            have q290 : x69_4 < (x9_3.length : Int) := zT (by assumption)
            obtain ⟨ad290, A290_0, c290_0, e290, hx290_0, hl290_0, hi290_0⟩ := at_L1 (Kd.S_reads' HO_9.out).2.2 x69_4 p290 q290
            cases e290
            obtain ⟨ce290, hce290, hMe290, hcc290⟩ := Kd.S_get HO_9.out [] x69_4 p290 (by first | exact q290 | exact zT (by assumption) | (have e_ := (Kd.S_reads' HO_9.out).1; omega))
            obtain ⟨ve290_0, rfl, ge290_0⟩ := hMe290
            have hv290_0 := hcc290 0 _ rfl
            rw [Nat.add_zero, show ((Kd.slice 3 (Kd.int .i64))).sz = 1 from rfl, Nat.mul_one] at hv290_0
            replace hv290_0 := zI (hv290_0.symm.trans hx290_0)
            rw [hv290_0] at ge290_0
            have HL290_0 := zM (show Kd.R (Kd.int .i64) 3 _ _ _ _ (rd_L1 x9_3 x69_4) from ge290_0)
            clear hv290_0 ge290_0
            clear hcc290 hce290
            have HR290_0 := zM hi290_0
            have HC290_0 := zM hl290_0
            clear hi290_0 hl290_0
            replace p290 := eq_true p290
            replace q290 := eq_true q290
            have p291 : 0 ≤ (x76_5 : Int) := zT (by assumption)
            have q291 : x76_5 < ((rd_L1 x9_3 x69_4).length : Int) := zT (by assumption)
            obtain ⟨ad291, e291, hx291_0⟩ := Kd.at_int (by repeat (first | (with_reducible exact HR290_0.out) | (with_reducible first | refine zCa ?_ _ | refine zCn ?_ _ | refine zCd ?_) | exact HR290_0.out)) x76_5 p291 q291
            cases e291
            replace p291 := eq_true p291
            replace q291 := eq_true q291
            have p39 : 0 ≤ ((rd (rd_L1 l0 x69_4) x76_5) : Int) := zT (by assumption)
            have q39 : ((rd (rd_L1 l0 x69_4) x76_5) : Int) < ((x13_5.length : Int) : Int) := zT (by assumption)
            obtain ⟨go39, co39, eo39, gb39, gl39, cl39, HG39⟩ := Kd.R_form HO_13.out (by omega)
            (first | cases eo39 | (injection eo39 with ea_ en_ ec_; (first | subst ea_ | (injection ea_ with ea_; subst ea_)); subst ec_; clear en_))
            have GB39 := zM gb39
            have GG39 := zM HG39
            clear gb39 gl39 HG39
            (first | simp only [add_plain] at hx289_0 | skip)
            obtain ⟨hx39_0, hf39_0⟩ := Kd.R_celln 0 HO_13.out ((rd (rd_L1 l0 x69_4) x76_5) : Int) p39 q39
            replace p39 := eq_true p39
            replace q39 := eq_true q39
            have HP43 := Kd.R_putn HO_13.out ((rd (rd_L1 l0 x69_4) x76_5) : Int) (wrap64 ((rd x13_5 (rd (rd_L1 l0 x69_4) x76_5)) + (rd (rd_L1 x9_3 x69_4) x76_5)))
            rw [← Ny292.out] at HP43
            have HQ43 := zM HP43
            clear HP43
            refine start_ (n := 14) (S := fun w' => w'.cell? ⟨go39, ((rd (rd_L1 l0 x69_4) x76_5)).toNat, none⟩ = some (.int .i64 (rd x13_5 (rd (rd_L1 l0 x69_4) x76_5))) ∧ w'.cell? (ad290.add (x69_4).toNat) = some (.slice (some ad291) (rd_L1 x9_3 x69_4).length c290_0) ∧ w'.cell? (ad291.add (x76_5).toNat) = some (.int .i64 (rd (rd_L1 x9_3 x69_4) x76_5))) (ds := [13]) #[zf,zf,zf,zf,zf,zf,zf,zf,zf,zf,zf,zf,zf,zf] (by kernel_rfl) rfl rfl ⟨hx289_0, hx290_0, hx291_0⟩ (fun hHeld => ?_); refine with_tabW impl_PassHints.tab18 impl_PassHints.bits18 (fun HT_ HW_ => ?_)
            generalize wr.drew = w40 at HO_9 HO_13 HB GG39 HL290_0 HQ43 HR290_0 hf39_0 hx289_0 hx290_0 hx291_0 hx39_0 hHeld ⊢
            refine pure_ (i := 0) (N := some 81) (v := ?_) (a' := ?_) #[zt,zf,zf,zf,zf,zf,zf,zf,zf,zf,zf,zf,zf,zf] rfl rfl (any_of HT_.out (by kernel_rfl)) (fun _ _ _ h => h) (Or.inl ⟨by rfl, ?_⟩) ?_ ?_
            rotate_left
            ·intro w'
             go_simp
             with_reducible rfl
            rotate_left
            ·simp only [Act.put, zS1, zS2, zS3, i64_w, i32_w]
             rfl
            refine pure_ (i := 1) (N := some 82) (v := ?_) (a' := ?_) #[zt,zt,zf,zf,zf,zf,zf,zf,zf,zf,zf,zf,zf,zf] rfl rfl (any_of HT_.out (by kernel_rfl)) (fun _ _ _ h => h) (Or.inl ⟨by rfl, ?_⟩) ?_ ?_
            rotate_left
            ·intro w'
             go_simp
             with_reducible rfl
            rotate_left
            ·simp only [Act.put, zS1, zS2, zS3, i64_w, i32_w]
             rfl
            refine pure_ (i := 2) (N := some 83) (v := ?_) (a' := ?_) #[zt,zt,zt,zf,zf,zf,zf,zf,zf,zf,zf,zf,zf,zf] rfl rfl (any_of HT_.out (by kernel_rfl)) (fun _ _ _ h => h) (Or.inl ⟨by rfl, ?_⟩) ?_ ?_
            rotate_left
            ·intro w'
             go_simp
             with_reducible rfl
            rotate_left
            ·simp only [Act.put, zS1, zS2, zS3, i64_w, i32_w]
             rfl
            refine pure_ (i := 4) (N := some 85) (v := ?_) (a' := ?_) #[zt,zt,zt,zf,zt,zf,zf,zf,zf,zf,zf,zf,zf,zf] rfl rfl (any_of HT_.out (by kernel_rfl)) (fun _ _ _ h => h) (Or.inl ⟨by rfl, ?_⟩) ?_ ?_
            rotate_left
            ·intro w'
             go_simp
             with_reducible rfl
            rotate_left
            ·simp only [Act.put, zS1, zS2, zS3, i64_w, i32_w]
             rfl
            refine pure_ (i := 5) (N := some 86) (v := ?_) (a' := ?_) #[zt,zt,zt,zf,zt,zt,zf,zf,zf,zf,zf,zf,zf,zf] rfl rfl (any_of HT_.out (by kernel_rfl)) (fun _ _ _ h => h) (Or.inl ⟨by rfl, ?_⟩) ?_ ?_
            rotate_left
            ·intro w'
             go_simp
             with_reducible rfl
            rotate_left
            ·simp only [Act.put, zS1, zS2, zS3, i64_w, i32_w]
             rfl
            refine pure_ (i := 6) (N := some 87) (v := ?_) (a' := ?_) #[zt,zt,zt,zf,zt,zt,zt,zf,zf,zf,zf,zf,zf,zf] rfl rfl (any_of HT_.out (by kernel_rfl)) (fun _ _ _ h => h) (Or.inl ⟨by rfl, ?_⟩) ?_ ?_
            rotate_left
            ·intro w'
             go_simp
             with_reducible rfl
            rotate_left
            ·simp only [Act.put, zS1, zS2, zS3, i64_w, i32_w]
             rfl
            refine pure_ (i := 8) (N := some 89) (v := ?_) (a' := ?_) #[zt,zt,zt,zf,zt,zt,zt,zf,zt,zf,zf,zf,zf,zf] rfl rfl (any_of HT_.out (by kernel_rfl)) (fun _ _ _ h => h) (Or.inl ⟨by rfl, ?_⟩) ?_ ?_
            rotate_left
            ·intro w'
             go_simp
             with_reducible rfl
            rotate_left
            ·simp only [Act.put, zS1, zS2, zS3, i64_w, i32_w]
             rfl
            refine take_ (i := 3) (N := some 84) (v := ?_) (a' := ?_) #[zt,zt,zt,zt,zt,zt,zt,zf,zt,zf,zf,zf,zf,zf] rfl rfl (take_ofW HT_.out HW_.out (by kernel_rfl)) (fun _ _ _ h => h) (Or.inl ⟨by rfl, ?_⟩) hHeld ?_ ?_
            rotate_left
            ·rintro w' ⟨s0, s1, s2⟩
             go_simp
             with_reducible rfl
            rotate_left
            ·simp only [Act.put, zS1, zS2, zS3, i64_w, i32_w]
             rfl
            refine take_ (i := 7) (N := some 88) (v := ?_) (a' := ?_) #[zt,zt,zt,zt,zt,zt,zt,zt,zt,zf,zf,zf,zf,zf] rfl rfl (take_ofW HT_.out HW_.out (by kernel_rfl)) (fun _ _ _ h => h) (Or.inl ⟨by rfl, ?_⟩) hHeld ?_ ?_
            rotate_left
            ·rintro w' ⟨s0, s1, s2⟩
             go_simp
             with_reducible rfl
            rotate_left
            ·simp only [Act.put, zS1, zS2, zS3, i64_w, i32_w]
             rfl
            refine pure_ (i := 9) (N := some 90) (v := ?_) (a' := ?_) #[zt,zt,zt,zt,zt,zt,zt,zt,zt,zt,zf,zf,zf,zf] rfl rfl (any_of HT_.out (by kernel_rfl)) (fun _ _ _ h => h) (Or.inl ⟨by rfl, ?_⟩) ?_ ?_
            rotate_left
            ·intro w'
             go_simp
             with_reducible rfl
            rotate_left
            ·simp only [Act.put, zS1, zS2, zS3, i64_w, i32_w]
             rfl
            refine take_ (i := 10) (N := some 91) (v := ?_) (a' := ?_) #[zt,zt,zt,zt,zt,zt,zt,zt,zt,zt,zt,zf,zf,zf] rfl rfl (take_ofW HT_.out HW_.out (by kernel_rfl)) (fun _ _ _ h => h) (Or.inl ⟨by rfl, ?_⟩) hHeld ?_ ?_
            rotate_left
            ·rintro w' ⟨s0, s1, s2⟩
             go_simp
             with_reducible rfl
            rotate_left
            ·simp only [Act.put, zS1, zS2, zS3, i64_w, i32_w]
             rfl
            refine pure_ (i := 11) (N := some 92) (v := ?_) (a' := ?_) #[zt,zt,zt,zt,zt,zt,zt,zt,zt,zt,zt,zt,zf,zf] rfl rfl (any_of HT_.out (by kernel_rfl)) (fun _ _ _ h => h) (Or.inl ⟨by rfl, ?_⟩) ?_ ?_
            rotate_left
            ·intro w'
             go_simp
             with_reducible rfl
            rotate_left
            ·simp only [Act.put, zS1, zS2, zS3, i64_w, i32_w]
             rfl
            refine pure_ (i := 12) (N := some 93) (v := ?_) (a' := ?_) #[zt,zt,zt,zt,zt,zt,zt,zt,zt,zt,zt,zt,zt,zf] rfl rfl (any_of HT_.out (by kernel_rfl)) (fun _ _ _ h => h) (Or.inl ⟨by rfl, ?_⟩) ?_ ?_
            rotate_left
            ·intro w'
             go_simp
             with_reducible rfl
            rotate_left
            ·simp only [Act.put, zS1, zS2, zS3, i64_w, i32_w]
             rfl
            refine last_ (i := 13) (N := none) #[zt,zt,zt,zt,zt,zt,zt,zt,zt,zt,zt,zt,zt,zt] rfl rfl (one_of HT_.out (by kernel_rfl)) (by decide) (fun K hK => ?_)
            refine skip_ (w1 := ?_) (by rfl) rfl ?_ ?_
            rotate_left
            ·go_simp
             rfl
            refine hK.out _ _ ?_
            clear hK K
            refine done_ (done_of HT_.out (by kernel_rfl)) ?_
            try go_wp2
            go_roundg k5
            case measure => have := HJ3.out; have := HK2.out; have := HK3.out; have := HK4.out; have := HK5.out; omega
            case rel => exact ⟨(y292), (wrap64 (x76_5 + 1)), (by first | rfl | (simp; done) | (simp [*]; done)), H', ⟨by have := HJ3.out; have := HK2.out; have := HK3.out; have := HK4.out; have := HK5.out; omega⟩, ⟨by (with_reducible repeat (first | apply Kd.S_alloc | apply Kd.S_drewN | apply Kd.S_drew)); first | exact Kd.S_mono (Kd.S_far (p := ⟨go39, ((rd (rd_L1 l0 x69_4) x76_5) : Int).toNat, none⟩) (Kd.S_mono HO_9.out (fun k_ hk => (⟨hk, fun e_ => hk (by rw [e_]; rfl)⟩ : _ ∧ k_ ≠ go39))) (fun _ hk => hk.2) (.int .i64 (wrap64 ((rd x13_5 (rd (rd_L1 l0 x69_4) x76_5)) + (rd (rd_L1 x9_3 x69_4) x76_5))))) (fun _ hk => hk.1) | (subst_vars; exact Kd.S_mono (Kd.S_far (p := ⟨go39, ((rd (rd_L1 l0 x69_4) x76_5) : Int).toNat, none⟩) (Kd.S_mono HO_9.out (fun k_ hk => (⟨hk, fun e_ => hk (by rw [e_]; rfl)⟩ : _ ∧ k_ ≠ go39))) (fun _ hk => hk.2) (.int .i64 (wrap64 ((rd x13_5 (rd (rd_L1 l0 x69_4) x76_5)) + (rd (rd_L1 x9_3 x69_4) x76_5))))) (fun _ hk => hk.1))⟩, ⟨by (with_reducible repeat (first | apply zRa | apply zRn | apply zRd)); first | exact HQ43.out | (subst_vars; exact HQ43.out)⟩, ⟨by repeat (first | (with_reducible first | exact HB.out | apply zBa | apply zBn | apply zBd | refine zBs ?_ GB39.out) | exact HB.out)⟩⟩
         rw [if_neg c28] at H
         have c28b0 : decide (x69_4 < (l0.length : Int)) = false := decide_eq_false c28
         clear c28
         by_cases c44 : 0 ≤ (l1.length : Int)
         case neg =>
          rw [if_neg c44] at H
          exact absurd H (by simp)
         rw [if_pos c44] at H
         have c44b0 := eq_true c44
         have c44b1 : decide (0 ≤ (l1.length : Int)) = true := zE c44
         clear c44
         by_cases c45 : ((l1.length : Int) : Int).toNat ≤ 35184372088832
         case neg =>
          rw [if_neg c45] at H
          exact absurd H (by simp)
         rw [if_pos c45] at H
         have c45b0 := eq_true c45
         have c45b1 : decide (((l1.length : Int) : Int).toNat ≤ 35184372088832) = true := zE c45
         clear c45
         obtain ⟨y293, hy293⟩ : ∃ y_ : List Int, y_ = (List.replicate ((l1.length : Int) : Int).toNat 0) := ⟨_, rfl⟩
         replace H : (impl_PassHints.l4 k4 l0 l1 a2 x9_3 x12_3 x13_4 y293 (x13_4.length : Int) 0) = some (r1, r2, r3) := by first | (rw [hy293]; with_reducible exact H) | (have H2_ := (Option.bind_some _ _).symm.trans H; rw [hy293]; with_reducible exact H2_) | (have H2_ := (Option.bind_some _ _).symm.trans H; with_reducible exact H2_) | with_reducible exact H | (rw [hy293]; exact H) | exact H
         have Ny293 := zM hy293
         clear hy293
         have H' := zM H
         clear H
         go_wp2_with (first | ((with_reducible refine gate_dst (N := 98) rfl ?_); refine Kd.R_make (Kd.int .i64) _ 3 rfl (N := 98) rfl 23 _ _ rfl (l1.length : Int) rfl rfl Try.underlying23 (.int .i64 0) 8 info3 rfl (by decide) (by omega) 0 (ok := fun _ => True) (okp := fun _ => True) rfl (fun _ hk => hk) trivial (zT (by assumption)) (Nat.le_trans (Nat.mul_le_mul_right _ (zT (by assumption) : (l1.length : Int).toNat ≤ 35184372088832)) (by omega)) (Below.refl _ _) (Nat.le_refl _) ?_; intro v294 w46 ho47 hb hg_ hnew_; clear hg_ hnew_; (first | rw [← Ny293.out] at ho47 | (simp only [Int.reduceToNat] at ho47; rw [← Ny293.out] at ho47)); have n0_ := zM (Kd.S_elder' (by (with_reducible repeat (first | apply Kd.S_alloc | apply Kd.S_drewN | apply Kd.S_drew)); first | exact HO_9.out | (subst_vars; exact HO_9.out)) (Kd.R_base ho47) hb); have n1_ := zM (Kd.R_elder' (by (with_reducible repeat (first | apply zRa | apply zRn | apply zRd)); first | exact HO_13.out | (subst_vars; exact HO_13.out)) (Kd.R_base ho47) hb); have n2_ := zM (Kd.R_lower (Kd.R_new' ho47 (Kd.R_lt (by (with_reducible repeat (first | apply zRa | apply zRn | apply zRd)); first | exact HO_13.out | (subst_vars; exact HO_13.out)))) (below_size (by repeat (first | (with_reducible first | exact HB.out | apply zBa | apply zBn | apply zBd) | exact HB.out)))); have n3_ := zM (below_step (by repeat (first | (with_reducible first | exact HB.out | apply zBa | apply zBn | apply zBd) | exact HB.out)) hb); clear HO_9; clear HO_13; clear HB; have HO_9 := n0_; have HO_13 := n1_; have HO295 := n2_; have HB := n3_; clear n0_ n1_ n2_ n3_; clear hb ho47; obtain ⟨Ao48, co48, eo48⟩ := Kd.R_slice HO_13.out; subst eo48))
         (try simp only [Act.put, zS1, zS2, zS3])
         go_loopg [101] k4 (fun kq v101 w' => ∃ (x18_5 : List Int) (x101_5 : Int), v101 = .int .i64 x101_5 ∧ Aside0 (impl_PassHints.l4 kq l0 l1 a2 x9_3 x12_3 x13_4 x18_5 (x13_4.length : Int) x101_5 = some (r1, r2, r3)) ∧ Aside0 (kq ≤ k4) ∧ Aside0 (Kd.S (Kd.slice 3 (Kd.int .i64)) 23 w' w.heap.size (fun k_ => some k_ ≠ ((.slice Ao48 x13_4.length co48) : Value).ownBlock ∧ some k_ ≠ (v294 : Value).ownBlock) v277 x9_3) ∧ Aside0 (Kd.R (Kd.int .i64) 3 w' w.heap.size (fun k_ => some k_ ≠ (v294 : Value).ownBlock) (.slice Ao48 x13_4.length co48) x13_4) ∧ Aside0 (Kd.R (Kd.int .i64) 3 w' w.heap.size (fun k_ => some k_ ≠ ((.slice Ao48 x13_4.length co48) : Value).ownBlock) v294 x18_5) ∧ Aside0 (Below w.heap.size w w'))
         case atStart => exact ⟨(y293), (0), (by first | rfl | (simp; done) | (simp [*]; done)), H', ⟨Nat.le_refl _⟩, ⟨by (with_reducible repeat (first | apply Kd.S_alloc | apply Kd.S_drewN | apply Kd.S_drew)); first | exact HO_9.out | (subst_vars; exact HO_9.out)⟩, ⟨by (with_reducible repeat (first | apply zRa | apply zRn | apply zRd)); first | exact Kd.R_mono HO_13.out (fun _ hk => hk.2) | (subst_vars; exact Kd.R_mono HO_13.out (fun _ hk => hk.2))⟩, ⟨by (with_reducible repeat (first | apply zRa | apply zRn | apply zRd)); first | exact Kd.R_mono HO295.out (fun _ hk => hk.2) | (subst_vars; exact Kd.R_mono HO295.out (fun _ hk => hk.2))⟩, ⟨by repeat (first | (with_reducible first | exact HB.out | apply zBa | apply zBn | apply zBd) | exact HB.out)⟩⟩
         case round =>
          clear H'
          try clear c1
          try clear c2
          try clear p2
          try clear q2
          try clear hx2
          try clear c3
          try clear p3
          try clear q3
          try clear hx3
          try clear hf3
          try clear c4
          try clear c6
          try clear p6
          try clear c8
          try clear c10
          try clear c11
          try clear c11b0
          try clear c11b1
          try clear c12
          try clear c12b0
          try clear c12b1
          try clear c15
          try clear c15b0
          try clear c16
          try clear c16b0
          try clear c17
          try clear c17b0
          try clear c18
          try clear c18b0
          try clear c18b1
          try clear c19
          try clear c19b0
          try clear c19b1
          try clear c20
          try clear c20b0
          try clear c21
          try clear p21
          try clear q21
          try clear hx21
          try clear hf21
          try clear c22
          try clear c24
          try clear hx24
          try clear hf24
          try clear c27
          try clear p27
          try clear q27
          try clear hx27
          try clear c28
          try clear c28b0
          try clear p28
          try clear q28
          try clear hx28
          try clear c29
          try clear c29b0
          try clear p29
          try clear q29
          try clear hx29
          try clear c30
          try clear c30b0
          try clear c31
          try clear c31b0
          try clear c32
          try clear c32b0
          try clear c33
          try clear c33b0
          try clear c34
          try clear c34b0
          try clear c35
          try clear c35b0
          try clear c36
          try clear c36b0
          try clear c37
          try clear c37b0
          try clear c38
          try clear c38b0
          try clear p39
          try clear q39
          try clear hx39
          try clear hf39
          try clear c40
          try clear c44
          try clear c44b0
          try clear c44b1
          try clear c45
          try clear c45b0
          try clear c45b1
          try clear hx21_0
          try clear hx24_0
          try clear hx279_0
          try clear hx287_0
          try clear hx288_0
          try clear hx289_0
          try clear hx290_0
          try clear hx291_0
          try clear hx39_0
          try clear p2
          try clear p21
          try clear p27
          try clear p279
          try clear p28
          try clear p287
          try clear p288
          try clear p289
          try clear p290
          try clear p291
          try clear p39
          try clear p6
          try clear q2
          try clear q21
          try clear q27
          try clear q279
          try clear q28
          try clear q287
          try clear q288
          try clear q289
          try clear q290
          try clear q291
          try clear q39
          obtain ⟨x18_5, x101_5, rfl, HA, HK5, HO_9, HO_13, HO_18, HB⟩ := hrel
          cases gk with
          | zero => exact absurd HA.out (by simp [impl_PassHints.l4])
          | succ k5 =>
           have H := HA.out
           clear HA
           simp only [impl_PassHints.l4] at H
           by_cases c49 : x101_5 < (x13_4.length : Int)
           case pos =>
            rw [if_pos c49] at H
            have c49b0 : decide (x101_5 < (x13_4.length : Int)) = true := zE c49
            clear c49
            by_cases c50 : 0 ≤ x101_5
            case neg =>
             rw [if_neg c50] at H
             exact absurd H (by simp)
            rw [if_pos c50] at H
            have c50b0 : decide (0 ≤ x101_5) = true := zE c50
            clear c50
            by_cases c51 : x101_5 < (x13_4.length : Int)
            case neg =>
             rw [if_neg c51] at H
             exact absurd H (by simp)
            rw [if_pos c51] at H
            have c51b0 : decide (x101_5 < (x13_4.length : Int)) = true := zE c51
            clear c51
            by_cases c52 : (rd x13_4 x101_5) < 0
            case neg =>
             rw [if_neg c52] at H
             have c52b0 : decide ((rd x13_4 x101_5) < 0) = false := decide_eq_false c52
             clear c52
             have H' := zM H
             clear H
             have p296 : 0 ≤ (x101_5 : Int) := zT (by assumption)
             have q296 : x101_5 < (x13_4.length : Int) := zT (by assumption)
             obtain ⟨ad296, e296, hx296_0⟩ := Kd.at_int (Kd.R_reads' HO_13.out).2.2 x101_5 p296 q296
             cases e296
             replace p296 := eq_true p296
             replace q296 := eq_true q296
             go_wp2
             go_roundg k5
             case measure => have := HJ3.out; have := HK2.out; have := HK3.out; have := HK4.out; have := HK5.out; omega
             case rel => exact ⟨(x18_5), (wrap64 (x101_5 + 1)), (by first | rfl | (simp; done) | (simp [*]; done)), H', ⟨by have := HJ3.out; have := HK2.out; have := HK3.out; have := HK4.out; have := HK5.out; omega⟩, ⟨by (with_reducible repeat (first | apply Kd.S_alloc | apply Kd.S_drewN | apply Kd.S_drew)); first | exact HO_9.out | (subst_vars; exact HO_9.out)⟩, ⟨by (with_reducible repeat (first | apply zRa | apply zRn | apply zRd)); first | exact HO_13.out | (subst_vars; exact HO_13.out)⟩, ⟨by (with_reducible repeat (first | apply zRa | apply zRn | apply zRd)); first | exact HO_18.out | (subst_vars; exact HO_18.out)⟩, ⟨by repeat (first | (with_reducible first | exact HB.out | apply zBa | apply zBn | apply zBd) | exact HB.out)⟩⟩
            rw [if_pos c52] at H
            have c52b0 : decide ((rd x13_4 x101_5) < 0) = true := zE c52
            clear c52
            by_cases c53 : x101_5 < (x18_5.length : Int)
            case neg =>
             rw [if_neg c53] at H
             exact absurd H (by simp)
            rw [if_pos c53] at H
            have c53b0 : decide (x101_5 < (x18_5.length : Int)) = true := zE c53
            clear c53
            obtain ⟨y297, hy297⟩ : ∃ y_ : List Int, y_ = (x18_5.set (x101_5 : Int).toNat 1) := ⟨_, rfl⟩
            replace H : (impl_PassHints.l4 k5 l0 l1 a2 x9_3 x12_3 x13_4 y297 (x13_4.length : Int) (wrap64 (x101_5 + 1))) = some (r1, r2, r3) := by first | (rw [hy297]; with_reducible exact H) | (have H2_ := (Option.bind_some _ _).symm.trans H; rw [hy297]; with_reducible exact H2_) | (have H2_ := (Option.bind_some _ _).symm.trans H; with_reducible exact H2_) | with_reducible exact H | (rw [hy297]; exact H) | exact H
            have Ny297 := zM hy297
            clear hy297
            have H' := zM H
            clear H
            have p296 : 0 ≤ (x101_5 : Int) := zT (by assumption)
            have q296 : x101_5 < (x13_4.length : Int) := zT (by assumption)
            obtain ⟨ad296, e296, hx296_0⟩ := Kd.at_int (Kd.R_reads' HO_13.out).2.2 x101_5 p296 q296
            cases e296
            replace p296 := eq_true p296
            replace q296 := eq_true q296
            have p54 : 0 ≤ (x101_5 : Int) := zT (by assumption)
            have q54 : (x101_5 : Int) < ((x18_5.length : Int) : Int) := zT (by assumption)
            obtain ⟨go54, co54, eo54, gb54, gl54, cl54, HG54⟩ := Kd.R_form HO_18.out (by omega)
            (first | cases eo54 | (injection eo54 with ea_ en_ ec_; (first | subst ea_ | (injection ea_ with ea_; subst ea_)); subst ec_; clear en_))
            have GB54 := zM gb54
            have GG54 := zM HG54
            clear gb54 gl54 HG54
            obtain ⟨hx54_0, hf54_0⟩ := Kd.R_celln 0 HO_18.out (x101_5 : Int) p54 q54
            replace p54 := eq_true p54
            replace q54 := eq_true q54
            have HP55 := Kd.R_putg HO_18.out (x101_5 : Int) 1
            go_wp2_with (first | ((with_reducible refine gate_store (t := 3) (p := 110) rfl ?_); refine store_event (t := 3) (p := 110) (v := ?vo_w56) (w1 := (wr.setCell ⟨go54, (x101_5 : Int).toNat, none⟩ (.int .i64 1))) ?hg ?ho ?hn ?hr ?_; (case ho => rfl); (case hg => rfl); (case hn => rfl); (case hr => first | (go_simp; done) | (go_simp; rfl)); intro w56 hw; have hg : wr.grownBy w56 (some go54) := (by rw [hw]; exact HP55.2); have hp_ : Kd.R (Kd.int .i64) 3 w56 w.heap.size (fun k_ => some k_ ≠ (.slice (some ad296) x13_4.length co48 : Value).ownBlock) (.slice (some ⟨go54, 0, none⟩) x18_5.length co54) y297 := (by rw [hw, Ny297.out]; exact HP55.1); clear HP55; have n0_ := zM (Kd.S_after (v := (.slice (some ⟨go54, 0, none⟩) x18_5.length co54)) (v1 := (.slice (some ⟨go54, 0, none⟩) x18_5.length co54)) (ok := (fun k_ => some k_ ≠ (.slice (some ad296) x13_4.length co48 : Value).ownBlock)) (by (with_reducible repeat (first | apply Kd.S_alloc | apply Kd.S_drewN | apply Kd.S_drew)); first | exact HO_9.out | (subst_vars; exact HO_9.out)) hg (.inl rfl)); have n1_ := zM (Kd.R_after (v := (.slice (some ⟨go54, 0, none⟩) x18_5.length co54)) (v1 := (.slice (some ⟨go54, 0, none⟩) x18_5.length co54)) (ok := (fun _ => True)) (by (with_reducible repeat (first | apply zRa | apply zRn | apply zRd)); first | exact Kd.R_mono HO_13.out (fun _ hk => ⟨trivial, hk⟩) | (subst_vars; exact Kd.R_mono HO_13.out (fun _ hk => ⟨trivial, hk⟩))) hg (.inl rfl)); have n2_ := zM (hp_); have n3_ := zM ((by rw [hw]; exact zBs (HB.out) GB54.out : Below w.heap.size w w56)); clear HO_9; clear HO_13; clear HO_18; clear HB; have HO_9 := n0_; have HO_13 := n1_; have HO_18 := n2_; have HB := n3_; clear n0_ n1_ n2_ n3_; clear hg hw hp_))
            go_roundg k5
            case measure => have := HJ3.out; have := HK2.out; have := HK3.out; have := HK4.out; have := HK5.out; omega
            case rel => exact ⟨(y297), (wrap64 (x101_5 + 1)), (by first | rfl | (simp; done) | (simp [*]; done)), H', ⟨by have := HJ3.out; have := HK2.out; have := HK3.out; have := HK4.out; have := HK5.out; omega⟩, ⟨by (with_reducible repeat (first | apply Kd.S_alloc | apply Kd.S_drewN | apply Kd.S_drew)); first | exact HO_9.out | (subst_vars; exact HO_9.out)⟩, ⟨by (with_reducible repeat (first | apply zRa | apply zRn | apply zRd)); first | exact Kd.R_mono HO_13.out (fun _ hk => hk.2) | (subst_vars; exact Kd.R_mono HO_13.out (fun _ hk => hk.2))⟩, ⟨by (with_reducible repeat (first | apply zRa | apply zRn | apply zRd)); first | exact HO_18.out | (subst_vars; exact HO_18.out)⟩, ⟨by repeat (first | (with_reducible first | exact HB.out | apply zBa | apply zBn | apply zBd) | exact HB.out)⟩⟩
           rw [if_neg c49] at H
           have c49b0 : decide (x101_5 < (x13_4.length : Int)) = false := decide_eq_false c49
           clear c49
           replace H := zO.mp H
           obtain ⟨t298, A570, H⟩ := H
           replace H : (if (t298.length : Int) = 0 then (impl_PassHints.j6 k5 l0 l1 a2 x9_3 x12_3 x13_4 x18_5 ((t298.length : Int) == 0) true) else (impl_PassHints.j6 k5 l0 l1 a2 x9_3 x12_3 x13_4 x18_5 ((t298.length : Int) == 0) (x12_3 == a2))) = some (r1, r2, r3) := H
           have A57 := zM A570
           clear A570
           have HC58 := zM H
           clear H
           obtain ⟨Ao59, co59, eo59⟩ := Kd.R_slice HO_18.out
           subst eo59
           go_upto_region 29 with (first | ((with_reducible refine gate_callee (f := 37) rfl ?_); refine goesL_ (some 114) rfl rfl Try.func37 (by kernel_rfl) rfl #[.slice A0 l0.length c0, .slice Ao59 x18_5.length co59] rfl (by (try simp only [List.map_toArray, List.map_cons, List.map_nil]); first | done | rfl | (simp only [List.length_drop, List.length_take]; rfl)) ?_; (with_reducible refine (impl_fails.calls k5 _ _ l0 _ _ x18_5 t298 _ ?side1 ?side2 ?side3 ?side4 A57.out).mono ?_); (case side1 => repeat (first | exact (Kd.C_below HR0.out HB.out) | (with_reducible first | refine zCa ?_ _ | refine zCn ?_ _ | refine zCd ?_))); (case side2 => exact HC0.out); (case side3 => repeat (first | exact (Kd.R_reads' HO_18.out).2.2 | (with_reducible first | refine zCa ?_ _ | refine zCn ?_ _ | refine zCd ?_))); (case side4 => exact (Kd.R_reads' HO_18.out).2.1); rintro e w60 ⟨v299, rfl, ho0, hb⟩; refine ⟨_, rfl, ?_⟩; have n0_ := zM (Kd.S_elder' (by (with_reducible repeat (first | apply Kd.S_alloc | apply Kd.S_drewN | apply Kd.S_drew)); first | exact HO_9.out | (subst_vars; exact HO_9.out)) (Kd.R_base ho0) hb); have n1_ := zM (Kd.R_elder' (by (with_reducible repeat (first | apply zRa | apply zRn | apply zRd)); first | exact HO_13.out | (subst_vars; exact HO_13.out)) (Kd.R_base ho0) hb); have n2_ := zM (Kd.R_elder' (by (with_reducible repeat (first | apply zRa | apply zRn | apply zRd)); first | exact HO_18.out | (subst_vars; exact HO_18.out)) (Kd.R_base ho0) hb); have n3_ := zM (Kd.R_lower (Kd.R_new' (Kd.R_new' ho0 (Kd.R_lt (by (with_reducible repeat (first | apply zRa | apply zRn | apply zRd)); first | exact HO_13.out | (subst_vars; exact HO_13.out)))) (Kd.R_lt (by (with_reducible repeat (first | apply zRa | apply zRn | apply zRd)); first | exact HO_18.out | (subst_vars; exact HO_18.out)))) (below_size (by repeat (first | (with_reducible first | exact HB.out | apply zBa | apply zBn | apply zBd) | exact HB.out)))); have n4_ := zM (below_step (by repeat (first | (with_reducible first | exact HB.out | apply zBa | apply zBn | apply zBd) | exact HB.out)) hb); clear HO_9; clear HO_13; clear HO_18; clear HB; have HO_9 := n0_; have HO_13 := n1_; have HO_18 := n2_; have HO300 := n3_; have HB := n4_; clear n0_ n1_ n2_ n3_ n4_; (try clear hb); (try clear hb2); (try clear hk); (try clear hi); (try clear ho0); obtain ⟨Ao61, co61, eo61⟩ := Kd.R_slice HO300.out; subst eo61))
           (try simp only [Act.put, zS1, zS2, zS3])
           go_cut [21, 122] (fun v21 v122 wc => ∃ (kq : Nat) (x122_57 : Bool), v21 = .bool ((t298.length : Int) == 0) ∧ v122 = .bool x122_57 ∧ Aside0 (impl_PassHints.j6 kq l0 l1 a2 x9_3 x12_3 x13_4 x18_5 ((t298.length : Int) == 0) x122_57 = some (r1, r2, r3)) ∧ Aside0 (kq ≤ k5) ∧ Aside0 (Kd.S (Kd.slice 3 (Kd.int .i64)) 23 wc w.heap.size (fun k_ => some k_ ≠ ((.slice Ao48 x13_4.length co48) : Value).ownBlock ∧ some k_ ≠ ((.slice Ao59 x18_5.length co59) : Value).ownBlock) v277 x9_3) ∧ Aside0 (Kd.R (Kd.int .i64) 3 wc w.heap.size (fun k_ => some k_ ≠ ((.slice Ao59 x18_5.length co59) : Value).ownBlock) (.slice Ao48 x13_4.length co48) x13_4) ∧ Aside0 (Kd.R (Kd.int .i64) 3 wc w.heap.size (fun k_ => some k_ ≠ ((.slice Ao48 x13_4.length co48) : Value).ownBlock) (.slice Ao59 x18_5.length co59) x18_5) ∧ Aside0 (Below w.heap.size w wc))
           case first =>
            have H := HC58.out
            clear HC58
            by_cases c62 : (t298.length : Int) = 0
            case pos =>
             rw [if_pos c62] at H
             have c62b0 : ((t298.length : Int) == 0) = true := beq_iff_eq.mpr c62
             have c62b1 : ((t298.length : Int) != 0) = false := bne_eq_false_iff_eq.mpr c62
             clear c62
             (first | rw [c62b0] | (simp only [i64_w, i32_w]; rw [c62b0]) | skip)
             have H' := zM H
             clear H
             go_wp2
             go_meet
             case rel => exact ⟨_, (true), (by first | rw [c62b0] | rfl | (simp [*]; done)), (by first | rfl | (simp; done) | (simp [*]; done)), H', ⟨by have := HJ3.out; have := HK2.out; have := HK3.out; have := HK4.out; have := HK5.out; first | omega | exact Nat.le_refl _⟩, ⟨by (with_reducible repeat (first | apply Kd.S_alloc | apply Kd.S_drewN | apply Kd.S_drew)); first | exact Kd.S_mono HO_9.out (fun _ hk => ⟨hk.1.1, hk.1.2⟩) | (subst_vars; exact Kd.S_mono HO_9.out (fun _ hk => ⟨hk.1.1, hk.1.2⟩))⟩, ⟨by (with_reducible repeat (first | apply zRa | apply zRn | apply zRd)); first | exact Kd.R_mono HO_13.out (fun _ hk => hk.1) | (subst_vars; exact Kd.R_mono HO_13.out (fun _ hk => hk.1))⟩, ⟨by (with_reducible repeat (first | apply zRa | apply zRn | apply zRd)); first | exact Kd.R_mono HO_18.out (fun _ hk => hk.1) | (subst_vars; exact Kd.R_mono HO_18.out (fun _ hk => hk.1))⟩, ⟨by repeat (first | (with_reducible first | exact HB.out | apply zBa | apply zBn | apply zBd) | exact HB.out)⟩⟩
            rw [if_neg c62] at H
            have c62b0 : ((t298.length : Int) == 0) = false := beq_eq_false_iff_ne.mpr c62
            have c62b1 : ((t298.length : Int) != 0) = true := bne_iff_ne.mpr c62
            have c62b2 : ¬ (t298 = []) := fun h_ => c62 (by rw [h_]; rfl)
            (first | rw [c62b0] | (simp only [i64_w, i32_w]; rw [c62b0]) | skip)
            have H' := zM H
            clear H
            go_wp2
            go_meet
            case rel => exact ⟨_, ((x12_3 == a2)), (by first | rw [c62b0] | rfl | (simp [*]; done)), (by first | rfl | (simp; done) | (simp [*]; done)), H', ⟨by have := HJ3.out; have := HK2.out; have := HK3.out; have := HK4.out; have := HK5.out; first | omega | exact Nat.le_refl _⟩, ⟨by (with_reducible repeat (first | apply Kd.S_alloc | apply Kd.S_drewN | apply Kd.S_drew)); first | exact Kd.S_mono HO_9.out (fun _ hk => ⟨hk.1.1, hk.1.2⟩) | (subst_vars; exact Kd.S_mono HO_9.out (fun _ hk => ⟨hk.1.1, hk.1.2⟩))⟩, ⟨by (with_reducible repeat (first | apply zRa | apply zRn | apply zRd)); first | exact Kd.R_mono HO_13.out (fun _ hk => hk.1) | (subst_vars; exact Kd.R_mono HO_13.out (fun _ hk => hk.1))⟩, ⟨by (with_reducible repeat (first | apply zRa | apply zRn | apply zRd)); first | exact Kd.R_mono HO_18.out (fun _ hk => hk.1) | (subst_vars; exact Kd.R_mono HO_18.out (fun _ hk => hk.1))⟩, ⟨by repeat (first | (with_reducible first | exact HB.out | apply zBa | apply zBn | apply zBd) | exact HB.out)⟩⟩
           case rest =>
            clear HC58
            try clear c1
            try clear c2
            try clear p2
            try clear q2
            try clear hx2
            try clear c3
            try clear p3
            try clear q3
            try clear hx3
            try clear hf3
            try clear c4
            try clear c5
            try clear p5
            try clear q5
            try clear hx5
            try clear hf5
            try clear c6
            try clear p6
            try clear c8
            try clear c10
            try clear c11
            try clear c11b0
            try clear c11b1
            try clear c12
            try clear c12b0
            try clear c12b1
            try clear c15
            try clear c15b0
            try clear c16
            try clear c16b0
            try clear c17
            try clear c17b0
            try clear c18
            try clear c18b0
            try clear c18b1
            try clear c19
            try clear c19b0
            try clear c19b1
            try clear c20
            try clear c20b0
            try clear c21
            try clear p21
            try clear q21
            try clear hx21
            try clear hf21
            try clear c22
            try clear c24
            try clear hx24
            try clear hf24
            try clear c27
            try clear p27
            try clear q27
            try clear hx27
            try clear c28
            try clear c28b0
            try clear p28
            try clear q28
            try clear hx28
            try clear c29
            try clear c29b0
            try clear p29
            try clear q29
            try clear hx29
            try clear c30
            try clear c30b0
            try clear c31
            try clear c31b0
            try clear c32
            try clear c32b0
            try clear c33
            try clear c33b0
            try clear c34
            try clear c34b0
            try clear c35
            try clear c35b0
            try clear c36
            try clear c36b0
            try clear c37
            try clear c37b0
            try clear c38
            try clear c38b0
            try clear p39
            try clear q39
            try clear hx39
            try clear hf39
            try clear c40
            try clear c44
            try clear c44b0
            try clear c44b1
            try clear c45
            try clear c45b0
            try clear c45b1
            try clear c49
            try clear c49b0
            try clear c50
            try clear c50b0
            try clear c51
            try clear c51b0
            try clear c52
            try clear c52b0
            try clear c53
            try clear c53b0
            try clear p54
            try clear q54
            try clear hx54
            try clear hf54
            try clear c62
            try clear c62b0
            try clear c62b1
            try clear c62b2
            try clear hx21_0
            try clear hx24_0
            try clear hx279_0
            try clear hx287_0
            try clear hx288_0
            try clear hx289_0
            try clear hx290_0
            try clear hx291_0
            try clear hx296_0
            try clear hx39_0
            try clear hx54_0
            try clear p2
            try clear p21
            try clear p27
            try clear p279
            try clear p28
            try clear p287
            try clear p288
            try clear p289
            try clear p29
            try clear p290
            try clear p291
            try clear p296
            try clear p3
            try clear p39
            try clear p54
            try clear p6
            try clear q2
            try clear q21
            try clear q27
            try clear q279
            try clear q28
            try clear q287
            try clear q288
            try clear q289
            try clear q29
            try clear q290
            try clear q291
            try clear q296
            try clear q3
            try clear q39
            try clear q54
            obtain ⟨kq, x122_57, rfl, rfl, HA, HJ57, HO_9, HO_13, HO_18, HB⟩ := hcut
            cases kq with
            | zero => exact absurd HA.out (by simp [impl_PassHints.j6])
            | succ kj57 =>
             have H := HA.out
             clear HA
             simp only [impl_PassHints.j6] at H
             by_cases c63 : x122_57 = true
             case pos =>
              subst c63
              have H1 : (some (x18_5, x12_3, ((t298.length : Int) == 0))) = some (r1, r2, r3) := by rw [if_pos rfl] at H; exact H
              clear H
              have H := H1
              clear H1
              simp only [Option.some.injEq, Prod.mk.injEq] at H
              obtain ⟨rfl, rfl, rfl⟩ := H
              go_wp2
              go_ret3
              exact ⟨_, by first | rfl | (simp [errW_none, errW_some] <;> rfl) | (simp [*, errW_none, errW_some] <;> rfl), by (with_reducible repeat (first | apply zRa | apply zRn | apply zRd)); first | exact Kd.R_mono HO_18.out (fun _ hk => trivial) | (subst_vars; exact Kd.R_mono HO_18.out (fun _ hk => trivial)), by repeat (first | (with_reducible first | exact HB.out | apply zBa | apply zBn | apply zBd) | exact HB.out)⟩
             replace c63 := Bool.eq_false_iff.mpr c63
             subst c63
             have H1 : (impl_PassHints.l5 kj57 l0 l1 a2 x9_3 x12_3 x13_4 l0 (l0.length : Int) 0) = some (r1, r2, r3) := by rw [if_neg (show ¬ (false = true) by decide)] at H; exact H
             clear H
             have H := H1
             clear H1
             have H' := zM H
             clear H
             go_wp2
             (try simp only [Act.put, zS1, zS2, zS3])
             go_loopg [128] kj57 (fun kq v128 w' => ∃ (x9_7 : List (List Int)) (x13_7 : List Int) (x128_7 : Int), v128 = .int .i64 x128_7 ∧ Aside0 (impl_PassHints.l5 kq l0 l1 a2 x9_7 x12_3 x13_7 l0 (l0.length : Int) x128_7 = some (r1, r2, r3)) ∧ Aside0 (kq ≤ kj57) ∧ Aside0 (Kd.S (Kd.slice 3 (Kd.int .i64)) 23 w' w.heap.size (fun k_ => some k_ ≠ ((.slice Ao48 x13_4.length co48) : Value).ownBlock) v277 x9_7) ∧ Aside0 (Kd.R (Kd.int .i64) 3 w' w.heap.size (fun _ => True) (.slice Ao48 x13_4.length co48) x13_7) ∧ Aside0 (Below w.heap.size w w'))
             case atStart => exact ⟨(x9_3), (x13_4), (0), (by first | rfl | (simp; done) | (simp [*]; done)), H', ⟨Nat.le_refl _⟩, ⟨by (with_reducible repeat (first | apply Kd.S_alloc | apply Kd.S_drewN | apply Kd.S_drew)); first | exact Kd.S_mono HO_9.out (fun _ hk => hk.1) | (subst_vars; exact Kd.S_mono HO_9.out (fun _ hk => hk.1))⟩, ⟨by (with_reducible repeat (first | apply zRa | apply zRn | apply zRd)); first | exact Kd.R_mono HO_13.out (fun _ hk => trivial) | (subst_vars; exact Kd.R_mono HO_13.out (fun _ hk => trivial))⟩, ⟨by repeat (first | (with_reducible first | exact HB.out | apply zBa | apply zBn | apply zBd) | exact HB.out)⟩⟩
             case round =>
              clear H'
              try clear c1
              try clear c2
              try clear p2
              try clear q2
              try clear hx2
              try clear c3
              try clear p3
              try clear q3
              try clear hx3
              try clear hf3
              try clear c4
              try clear c5
              try clear p5
              try clear q5
              try clear hx5
              try clear hf5
              try clear c6
              try clear p6
              try clear c8
              try clear c10
              try clear c11
              try clear c11b0
              try clear c11b1
              try clear c12
              try clear c12b0
              try clear c12b1
              try clear c15
              try clear c15b0
              try clear c16
              try clear c16b0
              try clear c17
              try clear c17b0
              try clear c18
              try clear c18b0
              try clear c18b1
              try clear c19
              try clear c19b0
              try clear c19b1
              try clear c20
              try clear c20b0
              try clear c21
              try clear p21
              try clear q21
              try clear hx21
              try clear hf21
              try clear c22
              try clear c24
              try clear hx24
              try clear hf24
              try clear c27
              try clear p27
              try clear q27
              try clear hx27
              try clear c28
              try clear c28b0
              try clear p28
              try clear q28
              try clear hx28
              try clear c29
              try clear c29b0
              try clear p29
              try clear q29
              try clear hx29
              try clear c30
              try clear c30b0
              try clear c31
              try clear c31b0
              try clear c32
              try clear c32b0
              try clear c33
              try clear c33b0
              try clear c34
              try clear c34b0
              try clear c35
              try clear c35b0
              try clear c36
              try clear c36b0
              try clear c37
              try clear c37b0
              try clear c38
              try clear c38b0
              try clear p39
              try clear q39
              try clear hx39
              try clear hf39
              try clear c40
              try clear c44
              try clear c44b0
              try clear c44b1
              try clear c45
              try clear c45b0
              try clear c45b1
              try clear c49
              try clear c49b0
              try clear c50
              try clear c50b0
              try clear c51
              try clear c51b0
              try clear c52
              try clear c52b0
              try clear c53
              try clear c53b0
              try clear p54
              try clear q54
              try clear hx54
              try clear hf54
              try clear c62
              try clear c62b0
              try clear c62b1
              try clear c62b2
              try clear c63
              try clear hx21_0
              try clear hx24_0
              try clear hx279_0
              try clear hx287_0
              try clear hx288_0
              try clear hx289_0
              try clear hx290_0
              try clear hx291_0
              try clear hx296_0
              try clear hx39_0
              try clear hx54_0
              try clear p2
              try clear p21
              try clear p27
              try clear p279
              try clear p28
              try clear p287
              try clear p288
              try clear p289
              try clear p29
              try clear p290
              try clear p291
              try clear p296
              try clear p3
              try clear p39
              try clear p5
              try clear p54
              try clear p6
              try clear q2
              try clear q21
              try clear q27
              try clear q279
              try clear q28
              try clear q287
              try clear q288
              try clear q289
              try clear q29
              try clear q290
              try clear q291
              try clear q296
              try clear q3
              try clear q39
              try clear q5
              try clear q54
              obtain ⟨x9_7, x13_7, x128_7, rfl, HA, HK7, HO_9, HO_13, HB⟩ := hrel
              have hl13_7 := (Kd.R_reads' HO_13.out).1
              rw [hl13_7] at HO_13
              (try simp only [hl13_7])
              (try simp only [hl13_7] at HO_9)
              cases gk with
              | zero => exact absurd HA.out (by simp [impl_PassHints.l5])
              | succ k7 =>
               have H := HA.out
               clear HA
               simp only [impl_PassHints.l5] at H
               by_cases c64 : x128_7 < (l0.length : Int)
               case neg =>
                rw [if_neg c64] at H
                have c64b0 : decide (x128_7 < (l0.length : Int)) = false := decide_eq_false c64
                (try (have c64w_hl13_7 := c64b0; simp only [hl13_7] at c64w_hl13_7))
                clear c64
                have H' := zM H
                clear H
                go_wp2
                (try simp only [← hl13_7])
                go_roundg k7
                case measure => have := HJ3.out; have := HK2.out; have := HK3.out; have := HK4.out; have := HK5.out; have := HJ57.out; have := HK7.out; omega
                case rel => exact ⟨(x9_7), (wrap64 (x12_3 + 1)), (by first | rfl | (simp; done) | (simp [*]; done)), H', ⟨by have := HJ3.out; have := HK2.out; have := HK3.out; have := HK4.out; have := HK5.out; have := HJ57.out; have := HK7.out; omega⟩, ⟨by (try simp only [hl13_7]); (with_reducible repeat (first | apply Kd.S_alloc | apply Kd.S_drewN | apply Kd.S_drew)); first | exact Kd.S_mono HO_9.out (fun _ hk => trivial) | (subst_vars; exact Kd.S_mono HO_9.out (fun _ hk => trivial))⟩, ⟨by repeat (first | (with_reducible first | exact HB.out | apply zBa | apply zBn | apply zBd) | exact HB.out)⟩⟩
               rw [if_pos c64] at H
               have c64b0 : decide (x128_7 < (l0.length : Int)) = true := zE c64
               (try (have c64w_hl13_7 := c64b0; simp only [hl13_7] at c64w_hl13_7))
               clear c64
               by_cases c65 : 0 ≤ x128_7
               case neg =>
                rw [if_neg c65] at H
                exact absurd H (by simp)
               rw [if_pos c65] at H
               have c65b0 : decide (0 ≤ x128_7) = true := zE c65
               (try (have c65w_hl13_7 := c65b0; simp only [hl13_7] at c65w_hl13_7))
               clear c65
               by_cases c66 : x128_7 < (l0.length : Int)
               case neg =>
                rw [if_neg c66] at H
                exact absurd H (by simp)
               rw [if_pos c66] at H
               have c66b0 : decide (x128_7 < (l0.length : Int)) = true := zE c66
               (try (have c66w_hl13_7 := c66b0; simp only [hl13_7] at c66w_hl13_7))
               clear c66
               by_cases c67 : 0 ≤ ((rd_L1 l0 x128_7).length : Int)
               case neg =>
                rw [if_neg c67] at H
                exact absurd H (by simp)
               rw [if_pos c67] at H
               have c67b0 := eq_true c67
               have c67b1 : decide (0 ≤ ((rd_L1 l0 x128_7).length : Int)) = true := zE c67
               clear c67
               by_cases c68 : (((rd_L1 l0 x128_7).length : Int) : Int).toNat ≤ 35184372088832
               case neg =>
                rw [if_neg c68] at H
                exact absurd H (by simp)
               rw [if_pos c68] at H
               have c68b0 := eq_true c68
               have c68b1 : decide ((((rd_L1 l0 x128_7).length : Int) : Int).toNat ≤ 35184372088832) = true := zE c68
               clear c68
               obtain ⟨y302, hy302⟩ : ∃ y_ : List Int, y_ = (List.replicate (((rd_L1 l0 x128_7).length : Int) : Int).toNat 0) := ⟨_, rfl⟩
               replace H : (impl_PassHints.l6 k7 l0 l1 a2 x9_7 x12_3 x13_7 x128_7 (rd_L1 l0 x128_7) y302 l0 (l0.length : Int) x128_7 ((rd_L1 l0 x128_7).length : Int) 0) = some (r1, r2, r3) := by first | (rw [hy302]; with_reducible exact H) | (have H2_ := (Option.bind_some _ _).symm.trans H; rw [hy302]; with_reducible exact H2_) | (have H2_ := (Option.bind_some _ _).symm.trans H; with_reducible exact H2_) | with_reducible exact H | (rw [hy302]; exact H) | exact H
               have Ny302 := zM hy302
               clear hy302
               have H' := zM H
               clear H
               have p301 : 0 ≤ (x128_7 : Int) := zT (by assumption)
               have q301 : x128_7 < (l0.length : Int) := zT (by assumption)
               obtain ⟨ad301, A301_0, c301_0, e301, hx301_0, hl301_0, hi301_0⟩ := at_L1 HR0.out x128_7 p301 q301
               cases e301
               replace hx301_0 := (HB.out.cell (zW w _ hx301_0)).trans hx301_0
               have HR301_0 := zM hi301_0
               have HC301_0 := zM hl301_0
               clear hi301_0 hl301_0
               replace p301 := eq_true p301
               replace q301 := eq_true q301
               go_wp2_with (first | ((with_reducible refine gate_dst (N := 135) rfl ?_); refine Kd.R_make (Kd.int .i64) _ 3 rfl (N := 135) rfl 23 _ _ rfl ((rd_L1 l0 x128_7).length : Int) rfl rfl Try.underlying23 (.int .i64 0) 8 info3 rfl (by decide) (by omega) 0 (ok := fun _ => True) (okp := fun _ => True) rfl (fun _ hk => hk) trivial (zT (by assumption)) (Nat.le_trans (Nat.mul_le_mul_right _ (zT (by assumption) : ((rd_L1 l0 x128_7).length : Int).toNat ≤ 35184372088832)) (by omega)) (Below.refl _ _) (Nat.le_refl _) ?_; intro v303 w69 ho70 hb hg_ hnew_; clear hg_ hnew_; (first | rw [← Ny302.out] at ho70 | (simp only [Int.reduceToNat] at ho70; rw [← Ny302.out] at ho70)); have n0_ := zM (Kd.S_elder' (by (with_reducible repeat (first | apply Kd.S_alloc | apply Kd.S_drewN | apply Kd.S_drew)); first | exact HO_9.out | (subst_vars; exact HO_9.out)) (Kd.R_base ho70) hb); have n1_ := zM (Kd.R_elder' (by (with_reducible repeat (first | apply zRa | apply zRn | apply zRd)); first | exact HO_13.out | (subst_vars; exact HO_13.out)) (Kd.R_base ho70) hb); have n2_ := zM (Kd.R_lower (Kd.R_new' ho70 (Kd.R_lt (by (with_reducible repeat (first | apply zRa | apply zRn | apply zRd)); first | exact HO_13.out | (subst_vars; exact HO_13.out)))) (below_size (by repeat (first | (with_reducible first | exact HB.out | apply zBa | apply zBn | apply zBd) | exact HB.out)))); have n3_ := zM (below_step (by repeat (first | (with_reducible first | exact HB.out | apply zBa | apply zBn | apply zBd) | exact HB.out)) hb); clear HO_9; clear HO_13; clear HB; have HO_9 := n0_; have HO_13 := n1_; have HO304 := n2_; have HB := n3_; clear n0_ n1_ n2_ n3_; clear hb ho70))
               (try simp only [Act.put, zS1, zS2, zS3])
               go_loopg [138] k7 (fun kq v138 w' => ∃ (x24_8 : List Int) (x138_8 : Int), v138 = .int .i64 x138_8 ∧ Aside0 (impl_PassHints.l6 kq l0 l1 a2 x9_7 x12_3 x13_7 x128_7 (rd_L1 l0 x128_7) x24_8 l0 (l0.length : Int) x128_7 ((rd_L1 l0 x128_7).length : Int) x138_8 = some (r1, r2, r3)) ∧ Aside0 (kq ≤ k7) ∧ Aside0 (Kd.S (Kd.slice 3 (Kd.int .i64)) 23 w' w.heap.size (fun k_ => some k_ ≠ ((.slice Ao48 x13_7.length co48) : Value).ownBlock ∧ some k_ ≠ (v303 : Value).ownBlock) v277 x9_7) ∧ Aside0 (Kd.R (Kd.int .i64) 3 w' w.heap.size (fun k_ => some k_ ≠ (v303 : Value).ownBlock) (.slice Ao48 x13_7.length co48) x13_7) ∧ Aside0 (Kd.R (Kd.int .i64) 3 w' w.heap.size (fun k_ => some k_ ≠ ((.slice Ao48 x13_7.length co48) : Value).ownBlock) v303 x24_8) ∧ Aside0 (Below w.heap.size w w'))
               case atStart => exact ⟨(y302), (0), (by first | rfl | (simp; done) | (simp [*]; done)), H', ⟨Nat.le_refl _⟩, ⟨by (try simp only [hl13_7]); (with_reducible repeat (first | apply Kd.S_alloc | apply Kd.S_drewN | apply Kd.S_drew)); first | exact HO_9.out | (subst_vars; exact HO_9.out)⟩, ⟨by (try simp only [hl13_7]); (with_reducible repeat (first | apply zRa | apply zRn | apply zRd)); first | exact Kd.R_mono HO_13.out (fun _ hk => hk.2) | (subst_vars; exact Kd.R_mono HO_13.out (fun _ hk => hk.2))⟩, ⟨by (try simp only [hl13_7]); (with_reducible repeat (first | apply zRa | apply zRn | apply zRd)); first | exact Kd.R_mono HO304.out (fun _ hk => hk.2) | (subst_vars; exact Kd.R_mono HO304.out (fun _ hk => hk.2))⟩, ⟨by repeat (first | (with_reducible first | exact HB.out | apply zBa | apply zBn | apply zBd) | exact HB.out)⟩⟩
               case round =>
                clear H'
                try clear c1
                try clear c2
                try clear p2
                try clear q2
                try clear hx2
                try clear c3
                try clear p3
                try clear q3
                try clear hx3
                try clear hf3
                try clear c4
                try clear c5
                try clear p5
                try clear q5
                try clear hx5
                try clear hf5
                try clear c6
                try clear p6
                try clear c8
                try clear c10
                try clear c11
                try clear c11b0
                try clear c11b1
                try clear c12
                try clear c12b0
                try clear c12b1
                try clear c15
                try clear c15b0
                try clear c16
                try clear c16b0
                try clear c17
                try clear c17b0
                try clear c18
                try clear c18b0
                try clear c18b1
                try clear c19
                try clear c19b0
                try clear c19b1
                try clear c20
                try clear c20b0
                try clear c21
                try clear p21
                try clear q21
                try clear hx21
                try clear hf21
                try clear c22
                try clear c24
                try clear hx24
                try clear hf24
                try clear c27
                try clear p27
                try clear q27
                try clear hx27
                try clear c28
                try clear c28b0
                try clear p28
                try clear q28
                try clear hx28
                try clear c29
                try clear c29b0
                try clear p29
                try clear q29
                try clear hx29
                try clear c30
                try clear c30b0
                try clear p30
                try clear q30
                try clear hx30
                try clear c31
                try clear c31b0
                try clear c32
                try clear c32b0
                try clear c33
                try clear c33b0
                try clear c34
                try clear c34b0
                try clear c35
                try clear c35b0
                try clear c36
                try clear c36b0
                try clear c37
                try clear c37b0
                try clear c38
                try clear c38b0
                try clear p39
                try clear q39
                try clear hx39
                try clear hf39
                try clear c40
                try clear c44
                try clear c44b0
                try clear c44b1
                try clear c45
                try clear c45b0
                try clear c45b1
                try clear c49
                try clear c49b0
                try clear c50
                try clear c50b0
                try clear c51
                try clear c51b0
                try clear c52
                try clear c52b0
                try clear c53
                try clear c53b0
                try clear p54
                try clear q54
                try clear hx54
                try clear hf54
                try clear c62
                try clear c62b0
                try clear c62b1
                try clear c62b2
                try clear c63
                try clear c64
                try clear c64b0
                try clear p64
                try clear c65
                try clear c65b0
                try clear c66
                try clear c66b0
                try clear c67
                try clear c67b0
                try clear c67b1
                try clear c68
                try clear c68b0
                try clear c68b1
                try clear hx21_0
                try clear hx24_0
                try clear hx279_0
                try clear hx287_0
                try clear hx288_0
                try clear hx289_0
                try clear hx290_0
                try clear hx291_0
                try clear hx296_0
                try clear hx301_0
                try clear hx39_0
                try clear hx54_0
                try clear p2
                try clear p21
                try clear p27
                try clear p279
                try clear p28
                try clear p287
                try clear p288
                try clear p289
                try clear p29
                try clear p290
                try clear p291
                try clear p296
                try clear p3
                try clear p301
                try clear p39
                try clear p5
                try clear p54
                try clear p6
                try clear q2
                try clear q21
                try clear q27
                try clear q279
                try clear q28
                try clear q287
                try clear q288
                try clear q289
                try clear q29
                try clear q290
                try clear q291
                try clear q296
                try clear q3
                try clear q301
                try clear q39
                try clear q5
                try clear q54
                obtain ⟨x24_8, x138_8, rfl, HA, HK8, HO_9, HO_13, HO_24, HB⟩ := hrel
                cases gk with
                | zero => exact absurd HA.out (by simp [impl_PassHints.l6])
                | succ k8 =>
                 have H := HA.out
                 clear HA
                 simp only [impl_PassHints.l6] at H
                 by_cases c71 : x138_8 < ((rd_L1 l0 x128_7).length : Int)
                 case neg =>
                  rw [if_neg c71] at H
                  have c71b0 : decide (x138_8 < ((rd_L1 l0 x128_7).length : Int)) = false := decide_eq_false c71
                  (try (have c71w_hl13_7 := c71b0; simp only [hl13_7] at c71w_hl13_7))
                  clear c71
                  by_cases c99 : 0 ≤ x128_7
                  case neg =>
                   rw [if_neg c99] at H
                   exact absurd H (by simp)
                  rw [if_pos c99] at H
                  have c99b0 : decide (0 ≤ x128_7) = true := zE c99
                  (try (have c99w_hl13_7 := c99b0; simp only [hl13_7] at c99w_hl13_7))
                  clear c99
                  by_cases c100 : x128_7 < (x9_7.length : Int)
                  case neg =>
                   rw [if_neg c100] at H
                   exact absurd H (by simp)
                  rw [if_pos c100] at H
                  have c100b0 : decide (x128_7 < (x9_7.length : Int)) = true := zE c100
                  (try (have c100w_hl13_7 := c100b0; simp only [hl13_7] at c100w_hl13_7))
                  clear c100
                  obtain ⟨y305, hy305⟩ : ∃ y_ : List (List Int), y_ = (x9_7.set (x128_7 : Int).toNat x24_8) := ⟨_, rfl⟩
                  replace H : (impl_PassHints.l5 k8 l0 l1 a2 y305 x12_3 x13_7 l0 (l0.length : Int) (wrap64 (x128_7 + 1))) = some (r1, r2, r3) := by first | (rw [hy305]; with_reducible exact H) | (have H2_ := (Option.bind_some _ _).symm.trans H; rw [hy305]; with_reducible exact H2_) | (have H2_ := (Option.bind_some _ _).symm.trans H; with_reducible exact H2_) | with_reducible exact H | (rw [hy305]; exact H) | exact H
                  have Ny305 := zM hy305
                  clear hy305
                  have H' := zM H
                  clear H
                  have p101 : 0 ≤ (x128_7 : Int) := zT (by assumption)
                  have q101 : (x128_7 : Int) < ((x9_7.length : Int) : Int) := zT (by assumption)
                  obtain ⟨go101, co101, eo101, gb101, gl101, cl101, HG101⟩ := Kd.S_form HO_9.out (by omega)
                  (first | cases eo101 | (injection eo101 with ea_ en_ ec_; (first | subst ea_ | (injection ea_ with ea_; subst ea_)); subst ec_; clear en_))
                  have GB101 := zM gb101
                  have GG101 := zM HG101
                  clear gb101 gl101 HG101
                  obtain ⟨_, ce101, hcl101, hM101, hcc101, hfr101, _, _⟩ := Kd.S_elem HO_9.out [] (x128_7 : Int) p101 q101
                  obtain ⟨ve101_0, rfl, ge101_0⟩ := hM101
                  have hx101_0 := hcc101 0 _ rfl
                  have hf101_0 := hfr101 0
                  (try simp only [show ((Kd.slice 3 (Kd.int .i64))).sz = 1 from rfl, Nat.mul_one, Nat.add_zero] at hx101_0)
                  (try simp only [show ((Kd.slice 3 (Kd.int .i64))).sz = 1 from rfl, Nat.mul_one, Nat.add_zero] at hf101_0)
                  (try clear hcl101 hcc101 hfr101); (try clear hM101)
                  replace p101 := eq_true p101
                  replace q101 := eq_true q101
                  have HX102 := zM (show Kd.S (Kd.slice 3 (Kd.int .i64)) 23 wr w.heap.size (fun k_ => ((fun k_ => some k_ ≠ (.slice Ao48 x13_7.length co48 : Value).ownBlock)) k_ ∧ ¬ ((fun k_ => some k_ = (v303 : Value).ownBlock)) k_) (.slice (some ⟨go101, 0, none⟩) x9_7.length co101) x9_7 from (by (with_reducible repeat (first | apply Kd.S_alloc | apply Kd.S_drewN | apply Kd.S_drew)); exact Kd.S_mono HO_9.out (fun k_ hk => ⟨hk.1, fun e_ => hk.2 e_⟩)))
                  obtain ⟨oki102, ce102, hcl102, hM102, hcc102, hfr102, hoki102, hH102⟩ := Kd.S_elem HX102.out [] (x128_7 : Int) (zT (by assumption)) (by have h_ : (x128_7 : Int) < ((x9_7.length : Int) : Int) := zT (by assumption); first | exact h_ | (have e_ := (Kd.S_reads' HO_9.out).1; omega) | simpa using h_)
                  obtain ⟨ve102_0, rfl, ge102_0⟩ := hM102
                  have HP102 := Kd.S_seg hH102 (zT (by assumption)) (by have h_ : (x128_7 : Int) < ((x9_7.length : Int) : Int) := zT (by assumption); first | exact h_ | (have e_ := (Kd.S_reads' HO_9.out).1; omega) | simpa using h_) (seg := [v303]) (j := 0) (show 1 ≤ 1 from by decide) (x' := x24_8) (Kd.M_row (Kd.R_mono (Kd.R_tight rfl (Kd.R_mono (ok' := fun k_ => ((fun k_ => some k_ ≠ (.slice Ao48 x13_7.length co48 : Value).ownBlock)) k_ ∧ k_ ≠ go101) (Kd.R_apart' (HO_24.out) (Kd.S_typed HO_9.out) (by decide)) (fun k_ hk => ⟨hk.1, fun e_ => (hk.2) (by rw [e_]; rfl)⟩))) (fun _ h_ => Or.inr (h_)))) (fun _ hk => hk) (fun k_ hk_ => ((Kd.R_mono (ok' := fun k_ => ((fun k_ => some k_ ≠ (.slice Ao48 x13_7.length co48 : Value).ownBlock)) k_ ∧ k_ ≠ go101) (Kd.R_apart' (HO_24.out) (Kd.S_typed HO_9.out) (by decide)) (fun k_ hk => ⟨hk.1, fun e_ => (hk.2) (by rw [e_]; rfl)⟩))).1 k_ hk_.symm)
                  have hx102_0 := hcc102 0 _ rfl
                  (try simp only [show ((Kd.slice 3 (Kd.int .i64))).sz = 1 from rfl, Nat.mul_one, Nat.add_zero] at hx102_0)
                  have hf102_0 := hfr102 0
                  (try simp only [show ((Kd.slice 3 (Kd.int .i64))).sz = 1 from rfl, Nat.mul_one, Nat.add_zero] at hf102_0)
                  (try clear hcl102 hcc102 hfr102 hoki102 hH102); (try clear hM102)
                  (try simp only [show ((Kd.slice 3 (Kd.int .i64))).sz = 1 from rfl, Nat.mul_one, Nat.add_zero] at HP102)
                  go_wp2_with (first | ((with_reducible refine gate_store (t := 23) (p := 184) rfl ?_); refine store_event (t := 23) (p := 184) (v := ?vo_w103) (w1 := (wr.setCell ⟨go101, (x128_7 : Int).toNat, none⟩ (v303))) ?hg ?ho ?hn ?hr ?_; (case ho => rfl); (case hg => rfl); (case hn => rfl); (case hr => first | (go_simp; done) | (go_simp; rfl) | (obtain ⟨_, _, eo_⟩ := Kd.R_slice HO_24.out; subst eo_; first | (go_simp; done) | (go_simp; rfl))); intro w103 hw; have hg : wr.grownBy w103 (some go101) := (by rw [hw]; exact HP102.2); have hp_ : Kd.S (Kd.slice 3 (Kd.int .i64)) 23 w103 w.heap.size (fun k_ => some k_ ≠ (.slice Ao48 x13_7.length co48 : Value).ownBlock) (.slice (some ⟨go101, 0, none⟩) x9_7.length co101) y305 := (by rw [hw, Ny305.out]; exact HP102.1); clear HP102; have n0_ := zM (hp_); have n1_ := zM (Kd.R_over' (v := (.slice (some ⟨go101, 0, none⟩) x9_7.length co101)) (by (with_reducible repeat (first | apply zRa | apply zRn | apply zRd)); first | exact HO_13.out | (subst_vars; exact HO_13.out)) (Kd.S_typed HO_9.out) (by decide) hg); have n2_ := zM ((by rw [hw]; exact zBs (HB.out) GB101.out : Below w.heap.size w w103)); clear HO_9; clear HO_13; clear HB; clear HO_24; have HO_9 := n0_; have HO_13 := n1_; have HB := n2_; clear n0_ n1_ n2_; clear hg hw hp_))
                  (try simp only [← hl13_7])
                  go_roundg k8
                  case measure => have := HJ3.out; have := HK2.out; have := HK3.out; have := HK4.out; have := HK5.out; have := HJ57.out; have := HK7.out; have := HK8.out; omega
                  case rel => exact ⟨(y305), (x13_7), (wrap64 (x128_7 + 1)), (by first | rfl | (simp; done) | (simp [*]; done)), H', ⟨by have := HJ3.out; have := HK2.out; have := HK3.out; have := HK4.out; have := HK5.out; have := HJ57.out; have := HK7.out; have := HK8.out; omega⟩, ⟨by (try simp only [hl13_7]); (with_reducible repeat (first | apply Kd.S_alloc | apply Kd.S_drewN | apply Kd.S_drew)); first | exact HO_9.out | (subst_vars; exact HO_9.out)⟩, ⟨by (try simp only [hl13_7]); (with_reducible repeat (first | apply zRa | apply zRn | apply zRd)); first | exact Kd.R_mono HO_13.out (fun _ hk => trivial) | (subst_vars; exact Kd.R_mono HO_13.out (fun _ hk => trivial))⟩, ⟨by repeat (first | (with_reducible first | exact HB.out | apply zBa | apply zBn | apply zBd) | exact HB.out)⟩⟩
                 rw [if_pos c71] at H
                 have c71b0 : decide (x138_8 < ((rd_L1 l0 x128_7).length : Int)) = true := zE c71
                 (try (have c71w_hl13_7 := c71b0; simp only [hl13_7] at c71w_hl13_7))
                 clear c71
                 have H' := zM H
                 clear H
                 go_wp2
                 (try simp only [Act.put, zS1, zS2, zS3])
                 go_loopg [26, 27, 143] k8 (fun kq v26 v27 v143 w' => ∃ (x26_9 : Int) (x27_9 : Bool) (x143_9 : Int), v26 = .int .i64 x26_9 ∧ v27 = .bool x27_9 ∧ v143 = .int .i64 x143_9 ∧ Aside0 (impl_PassHints.l7 kq l0 l1 a2 x9_7 x12_3 x13_7 x128_7 (rd_L1 l0 x128_7) x24_8 x138_8 x26_9 x27_9 l0 (l0.length : Int) x128_7 ((rd_L1 l0 x128_7).length : Int) x138_8 (rd_L1 l0 x128_7) ((rd_L1 l0 x128_7).length : Int) x143_9 = some (r1, r2, r3)) ∧ Aside0 (kq ≤ k8) ∧ Aside0 (Kd.S (Kd.slice 3 (Kd.int .i64)) 23 w' w.heap.size (fun k_ => some k_ ≠ ((.slice Ao48 x13_7.length co48) : Value).ownBlock ∧ some k_ ≠ (v303 : Value).ownBlock) v277 x9_7) ∧ Aside0 (Kd.R (Kd.int .i64) 3 w' w.heap.size (fun k_ => some k_ ≠ (v303 : Value).ownBlock) (.slice Ao48 x13_7.length co48) x13_7) ∧ Aside0 (Kd.R (Kd.int .i64) 3 w' w.heap.size (fun k_ => some k_ ≠ ((.slice Ao48 x13_7.length co48) : Value).ownBlock) v303 x24_8) ∧ Aside0 (Below w.heap.size w w'))
                 case atStart => exact ⟨(1000), (false), (0), (by first | rfl | (simp; done) | (simp [*]; done)), (by first | rfl | (simp; done) | (simp [*]; done)), (by first | rfl | (simp; done) | (simp [*]; done)), H', ⟨Nat.le_refl _⟩, ⟨by (try simp only [hl13_7]); (with_reducible repeat (first | apply Kd.S_alloc | apply Kd.S_drewN | apply Kd.S_drew)); first | exact HO_9.out | (subst_vars; exact HO_9.out)⟩, ⟨by (try simp only [hl13_7]); (with_reducible repeat (first | apply zRa | apply zRn | apply zRd)); first | exact HO_13.out | (subst_vars; exact HO_13.out)⟩, ⟨by (try simp only [hl13_7]); (with_reducible repeat (first | apply zRa | apply zRn | apply zRd)); first | exact HO_24.out | (subst_vars; exact HO_24.out)⟩, ⟨by repeat (first | (with_reducible first | exact HB.out | apply zBa | apply zBn | apply zBd) | exact HB.out)⟩⟩
                 case round =>
                  clear H'
                  try clear c1
                  try clear c2
                  try clear p2
                  try clear q2
                  try clear hx2
                  try clear c3
                  try clear p3
                  try clear q3
                  try clear hx3
                  try clear hf3
                  try clear c4
                  try clear c5
                  try clear p5
                  try clear q5
                  try clear hx5
                  try clear hf5
                  try clear c6
                  try clear p6
                  try clear c7
                  try clear c8
                  try clear c10
                  try clear c11
                  try clear c11b0
                  try clear c11b1
                  try clear c12
                  try clear c12b0
                  try clear c12b1
                  try clear c15
                  try clear c15b0
                  try clear c16
                  try clear c16b0
                  try clear c17
                  try clear c17b0
                  try clear c18
                  try clear c18b0
                  try clear c18b1
                  try clear c19
                  try clear c19b0
                  try clear c19b1
                  try clear c20
                  try clear c20b0
                  try clear c21
                  try clear p21
                  try clear q21
                  try clear hx21
                  try clear hf21
                  try clear c22
                  try clear c24
                  try clear hx24
                  try clear hf24
                  try clear c27
                  try clear p27
                  try clear q27
                  try clear hx27
                  try clear c28
                  try clear c28b0
                  try clear p28
                  try clear q28
                  try clear hx28
                  try clear c29
                  try clear c29b0
                  try clear p29
                  try clear q29
                  try clear hx29
                  try clear c30
                  try clear c30b0
                  try clear p30
                  try clear q30
                  try clear hx30
                  try clear c31
                  try clear c31b0
                  try clear c32
                  try clear c32b0
                  try clear c33
                  try clear c33b0
                  try clear c34
                  try clear c34b0
                  try clear c35
                  try clear c35b0
                  try clear c36
                  try clear c36b0
                  try clear c37
                  try clear c37b0
                  try clear c38
                  try clear c38b0
                  try clear p39
                  try clear q39
                  try clear hx39
                  try clear hf39
                  try clear c40
                  try clear c44
                  try clear c44b0
                  try clear c44b1
                  try clear c45
                  try clear c45b0
                  try clear c45b1
                  try clear c49
                  try clear c49b0
                  try clear c50
                  try clear c50b0
                  try clear c51
                  try clear c51b0
                  try clear c52
                  try clear c52b0
                  try clear c53
                  try clear c53b0
                  try clear p54
                  try clear q54
                  try clear hx54
                  try clear hf54
                  try clear c62
                  try clear c62b0
                  try clear c62b1
                  try clear c62b2
                  try clear c63
                  try clear c64
                  try clear c64b0
                  try clear p64
                  try clear c65
                  try clear c65b0
                  try clear c66
                  try clear c66b0
                  try clear c67
                  try clear c67b0
                  try clear c67b1
                  try clear c68
                  try clear c68b0
                  try clear c68b1
                  try clear c71
                  try clear c71b0
                  try clear hx21_0
                  try clear hx24_0
                  try clear hx279_0
                  try clear hx287_0
                  try clear hx288_0
                  try clear hx289_0
                  try clear hx290_0
                  try clear hx291_0
                  try clear hx296_0
                  try clear hx301_0
                  try clear hx39_0
                  try clear hx54_0
                  try clear p2
                  try clear p21
                  try clear p27
                  try clear p279
                  try clear p28
                  try clear p287
                  try clear p288
                  try clear p289
                  try clear p29
                  try clear p290
                  try clear p291
                  try clear p296
                  try clear p3
                  try clear p30
                  try clear p301
                  try clear p39
                  try clear p5
                  try clear p54
                  try clear p6
                  try clear p64
                  try clear q2
                  try clear q21
                  try clear q27
                  try clear q279
                  try clear q28
                  try clear q287
                  try clear q288
                  try clear q289
                  try clear q29
                  try clear q290
                  try clear q291
                  try clear q296
                  try clear q3
                  try clear q30
                  try clear q301
                  try clear q39
                  try clear q5
                  try clear q54
                  obtain ⟨x26_9, x27_9, x143_9, rfl, rfl, rfl, HA, HK9, HO_9, HO_13, HO_24, HB⟩ := hrel
                  cases gk with
                  | zero => exact absurd HA.out (by simp [impl_PassHints.l7])
                  | succ k9 =>
                   have H := HA.out
                   clear HA
                   simp only [impl_PassHints.l7] at H
                   by_cases c72 : x143_9 < ((rd_L1 l0 x128_7).length : Int)
                   case neg =>
                    rw [if_neg c72] at H
                    have c72b0 : decide (x143_9 < ((rd_L1 l0 x128_7).length : Int)) = false := decide_eq_false c72
                    (try (have c72w_hl13_7 := c72b0; simp only [hl13_7] at c72w_hl13_7))
                    clear c72
                    by_cases c88 : x27_9 = true
                    case pos =>
                     subst c88
                     have H1 : (if 0 ≤ x138_8 then (if x138_8 < (x24_8.length : Int) then (impl_PassHints.l6 k9 l0 l1 a2 x9_7 x12_3 x13_7 x128_7 (rd_L1 l0 x128_7) (x24_8.set (x138_8 : Int).toNat (wrap64 (-x26_9))) l0 (l0.length : Int) x128_7 ((rd_L1 l0 x128_7).length : Int) (wrap64 (x138_8 + 1))) else (none)) else (none)) = some (r1, r2, r3) := by rw [if_pos rfl] at H; exact H
                     clear H
                     have H := H1
                     clear H1
                     by_cases c89 : 0 ≤ x138_8
                     case neg =>
                      rw [if_neg c89] at H
                      exact absurd H (by simp)
                     rw [if_pos c89] at H
                     have c89b0 : decide (0 ≤ x138_8) = true := zE c89
                     (try (have c89w_hl13_7 := c89b0; simp only [hl13_7] at c89w_hl13_7))
                     clear c89
                     by_cases c90 : x138_8 < (x24_8.length : Int)
                     case neg =>
                      rw [if_neg c90] at H
                      exact absurd H (by simp)
                     rw [if_pos c90] at H
                     have c90b0 : decide (x138_8 < (x24_8.length : Int)) = true := zE c90
                     (try (have c90w_hl13_7 := c90b0; simp only [hl13_7] at c90w_hl13_7))
                     clear c90
                     obtain ⟨y306, hy306⟩ : ∃ y_ : List Int, y_ = (x24_8.set (x138_8 : Int).toNat (wrap64 (-x26_9))) := ⟨_, rfl⟩
                     replace H : (impl_PassHints.l6 k9 l0 l1 a2 x9_7 x12_3 x13_7 x128_7 (rd_L1 l0 x128_7) y306 l0 (l0.length : Int) x128_7 ((rd_L1 l0 x128_7).length : Int) (wrap64 (x138_8 + 1))) = some (r1, r2, r3) := by first | (rw [hy306]; with_reducible exact H) | (have H2_ := (Option.bind_some _ _).symm.trans H; rw [hy306]; with_reducible exact H2_) | (have H2_ := (Option.bind_some _ _).symm.trans H; with_reducible exact H2_) | with_reducible exact H | (rw [hy306]; exact H) | exact H
                     have Ny306 := zM hy306
                     clear hy306
                     have H' := zM H
                     clear H
                     have p91 : 0 ≤ (x138_8 : Int) := zT (by assumption)
                     have q91 : (x138_8 : Int) < ((x24_8.length : Int) : Int) := zT (by assumption)
                     obtain ⟨go91, co91, eo91, gb91, gl91, cl91, HG91⟩ := Kd.R_form HO_24.out (by omega)
                     (first | cases eo91 | (injection eo91 with ea_ en_ ec_; (first | subst ea_ | (injection ea_ with ea_; subst ea_)); subst ec_; clear en_))
                     have GB91 := zM gb91
                     have GG91 := zM HG91
                     clear gb91 gl91 HG91
                     obtain ⟨hx91_0, hf91_0⟩ := Kd.R_celln 0 HO_24.out (x138_8 : Int) p91 q91
                     replace p91 := eq_true p91
                     replace q91 := eq_true q91
                     have HP92 := Kd.R_putg HO_24.out (x138_8 : Int) (wrap64 (-x26_9))
                     go_wp2_with (first | ((with_reducible refine gate_store (t := 3) (p := 179) rfl ?_); refine store_event (t := 3) (p := 179) (v := ?vo_w93) (w1 := (wr.setCell ⟨go91, (x138_8 : Int).toNat, none⟩ (.int .i64 (wrap64 (-x26_9))))) ?hg ?ho ?hn ?hr ?_; (case ho => rfl); (case hg => rfl); (case hn => rfl); (case hr => first | (go_simp; done) | (go_simp; rfl)); intro w93 hw; have hg : wr.grownBy w93 (some go91) := (by rw [hw]; exact HP92.2); have hp_ : Kd.R (Kd.int .i64) 3 w93 w.heap.size (fun k_ => some k_ ≠ (.slice Ao48 x13_7.length co48 : Value).ownBlock) (.slice (some ⟨go91, 0, none⟩) x24_8.length co91) y306 := (by rw [hw, Ny306.out]; exact HP92.1); clear HP92; have n0_ := zM (Kd.S_after (v := (.slice (some ⟨go91, 0, none⟩) x24_8.length co91)) (v1 := (.slice (some ⟨go91, 0, none⟩) x24_8.length co91)) (ok := (fun k_ => some k_ ≠ (.slice Ao48 x13_7.length co48 : Value).ownBlock)) (by (with_reducible repeat (first | apply Kd.S_alloc | apply Kd.S_drewN | apply Kd.S_drew)); first | exact HO_9.out | (subst_vars; exact HO_9.out)) hg (.inl rfl)); have n1_ := zM (Kd.R_after (v := (.slice (some ⟨go91, 0, none⟩) x24_8.length co91)) (v1 := (.slice (some ⟨go91, 0, none⟩) x24_8.length co91)) (ok := (fun _ => True)) (by (with_reducible repeat (first | apply zRa | apply zRn | apply zRd)); first | exact Kd.R_mono HO_13.out (fun _ hk => ⟨trivial, hk⟩) | (subst_vars; exact Kd.R_mono HO_13.out (fun _ hk => ⟨trivial, hk⟩))) hg (.inl rfl)); have n2_ := zM (hp_); have n3_ := zM ((by rw [hw]; exact zBs (HB.out) GB91.out : Below w.heap.size w w93)); clear HO_9; clear HO_13; clear HO_24; clear HB; have HO_9 := n0_; have HO_13 := n1_; have HO_24 := n2_; have HB := n3_; clear n0_ n1_ n2_ n3_; clear hg hw hp_))
                     go_roundg k9
                     case measure => have := HJ3.out; have := HK2.out; have := HK3.out; have := HK4.out; have := HK5.out; have := HJ57.out; have := HK7.out; have := HK8.out; have := HK9.out; omega
                     case rel => exact ⟨(y306), (wrap64 (x138_8 + 1)), (by first | rfl | (simp; done) | (simp [*]; done)), H', ⟨by have := HJ3.out; have := HK2.out; have := HK3.out; have := HK4.out; have := HK5.out; have := HJ57.out; have := HK7.out; have := HK8.out; have := HK9.out; omega⟩, ⟨by (try simp only [hl13_7]); (with_reducible repeat (first | apply Kd.S_alloc | apply Kd.S_drewN | apply Kd.S_drew)); first | exact HO_9.out | (subst_vars; exact HO_9.out)⟩, ⟨by (try simp only [hl13_7]); (with_reducible repeat (first | apply zRa | apply zRn | apply zRd)); first | exact Kd.R_mono HO_13.out (fun _ hk => hk.2) | (subst_vars; exact Kd.R_mono HO_13.out (fun _ hk => hk.2))⟩, ⟨by (try simp only [hl13_7]); (with_reducible repeat (first | apply zRa | apply zRn | apply zRd)); first | exact HO_24.out | (subst_vars; exact HO_24.out)⟩, ⟨by repeat (first | (with_reducible first | exact HB.out | apply zBa | apply zBn | apply zBd) | exact HB.out)⟩⟩
                    replace c88 := Bool.eq_false_iff.mpr c88
                    subst c88
                    have H1 : (if 0 ≤ x138_8 then (if x138_8 < (x24_8.length : Int) then (impl_PassHints.l6 k9 l0 l1 a2 x9_7 x12_3 x13_7 x128_7 (rd_L1 l0 x128_7) (x24_8.set (x138_8 : Int).toNat x26_9) l0 (l0.length : Int) x128_7 ((rd_L1 l0 x128_7).length : Int) (wrap64 (x138_8 + 1))) else (none)) else (none)) = some (r1, r2, r3) := by rw [if_neg (show ¬ (false = true) by decide)] at H; exact H
                    clear H
                    have H := H1
                    clear H1
                    by_cases c94 : 0 ≤ x138_8
                    case neg =>
                     rw [if_neg c94] at H
                     exact absurd H (by simp)
                    rw [if_pos c94] at H
                    have c94b0 : decide (0 ≤ x138_8) = true := zE c94
                    (try (have c94w_hl13_7 := c94b0; simp only [hl13_7] at c94w_hl13_7))
                    clear c94
                    by_cases c95 : x138_8 < (x24_8.length : Int)
                    case neg =>
                     rw [if_neg c95] at H
                     exact absurd H (by simp)
                    rw [if_pos c95] at H
                    have c95b0 : decide (x138_8 < (x24_8.length : Int)) = true := zE c95
                    (try (have c95w_hl13_7 := c95b0; simp only [hl13_7] at c95w_hl13_7))
                    clear c95
                    obtain ⟨y307, hy307⟩ : ∃ y_ : List Int, y_ = (x24_8.set (x138_8 : Int).toNat x26_9) := ⟨_, rfl⟩
                    replace H : (impl_PassHints.l6 k9 l0 l1 a2 x9_7 x12_3 x13_7 x128_7 (rd_L1 l0 x128_7) y307 l0 (l0.length : Int) x128_7 ((rd_L1 l0 x128_7).length : Int) (wrap64 (x138_8 + 1))) = some (r1, r2, r3) := by first | (rw [hy307]; with_reducible exact H) | (have H2_ := (Option.bind_some _ _).symm.trans H; rw [hy307]; with_reducible exact H2_) | (have H2_ := (Option.bind_some _ _).symm.trans H; with_reducible exact H2_) | with_reducible exact H | (rw [hy307]; exact H) | exact H
                    have Ny307 := zM hy307
                    clear hy307
                    have H' := zM H
                    clear H
                    have p96 : 0 ≤ (x138_8 : Int) := zT (by assumption)
                    have q96 : (x138_8 : Int) < ((x24_8.length : Int) : Int) := zT (by assumption)
                    obtain ⟨go96, co96, eo96, gb96, gl96, cl96, HG96⟩ := Kd.R_form HO_24.out (by omega)
                    (first | cases eo96 | (injection eo96 with ea_ en_ ec_; (first | subst ea_ | (injection ea_ with ea_; subst ea_)); subst ec_; clear en_))
                    have GB96 := zM gb96
                    have GG96 := zM HG96
                    clear gb96 gl96 HG96
                    obtain ⟨hx96_0, hf96_0⟩ := Kd.R_celln 0 HO_24.out (x138_8 : Int) p96 q96
                    replace p96 := eq_true p96
                    replace q96 := eq_true q96
                    have HP97 := Kd.R_putg HO_24.out (x138_8 : Int) x26_9
                    go_wp2_with (first | ((with_reducible refine gate_store (t := 3) (p := 179) rfl ?_); refine store_event (t := 3) (p := 179) (v := ?vo_w98) (w1 := (wr.setCell ⟨go96, (x138_8 : Int).toNat, none⟩ (.int .i64 x26_9))) ?hg ?ho ?hn ?hr ?_; (case ho => rfl); (case hg => rfl); (case hn => rfl); (case hr => first | (go_simp; done) | (go_simp; rfl)); intro w98 hw; have hg : wr.grownBy w98 (some go96) := (by rw [hw]; exact HP97.2); have hp_ : Kd.R (Kd.int .i64) 3 w98 w.heap.size (fun k_ => some k_ ≠ (.slice Ao48 x13_7.length co48 : Value).ownBlock) (.slice (some ⟨go96, 0, none⟩) x24_8.length co96) y307 := (by rw [hw, Ny307.out]; exact HP97.1); clear HP97; have n0_ := zM (Kd.S_after (v := (.slice (some ⟨go96, 0, none⟩) x24_8.length co96)) (v1 := (.slice (some ⟨go96, 0, none⟩) x24_8.length co96)) (ok := (fun k_ => some k_ ≠ (.slice Ao48 x13_7.length co48 : Value).ownBlock)) (by (with_reducible repeat (first | apply Kd.S_alloc | apply Kd.S_drewN | apply Kd.S_drew)); first | exact HO_9.out | (subst_vars; exact HO_9.out)) hg (.inl rfl)); have n1_ := zM (Kd.R_after (v := (.slice (some ⟨go96, 0, none⟩) x24_8.length co96)) (v1 := (.slice (some ⟨go96, 0, none⟩) x24_8.length co96)) (ok := (fun _ => True)) (by (with_reducible repeat (first | apply zRa | apply zRn | apply zRd)); first | exact Kd.R_mono HO_13.out (fun _ hk => ⟨trivial, hk⟩) | (subst_vars; exact Kd.R_mono HO_13.out (fun _ hk => ⟨trivial, hk⟩))) hg (.inl rfl)); have n2_ := zM (hp_); have n3_ := zM ((by rw [hw]; exact zBs (HB.out) GB96.out : Below w.heap.size w w98)); clear HO_9; clear HO_13; clear HO_24; clear HB; have HO_9 := n0_; have HO_13 := n1_; have HO_24 := n2_; have HB := n3_; clear n0_ n1_ n2_ n3_; clear hg hw hp_))
                    go_roundg k9
                    case measure => have := HJ3.out; have := HK2.out; have := HK3.out; have := HK4.out; have := HK5.out; have := HJ57.out; have := HK7.out; have := HK8.out; have := HK9.out; omega
                    case rel => exact ⟨(y307), (wrap64 (x138_8 + 1)), (by first | rfl | (simp; done) | (simp [*]; done)), H', ⟨by have := HJ3.out; have := HK2.out; have := HK3.out; have := HK4.out; have := HK5.out; have := HJ57.out; have := HK7.out; have := HK8.out; have := HK9.out; omega⟩, ⟨by (try simp only [hl13_7]); (with_reducible repeat (first | apply Kd.S_alloc | apply Kd.S_drewN | apply Kd.S_drew)); first | exact HO_9.out | (subst_vars; exact HO_9.out)⟩, ⟨by (try simp only [hl13_7]); (with_reducible repeat (first | apply zRa | apply zRn | apply zRd)); first | exact Kd.R_mono HO_13.out (fun _ hk => hk.2) | (subst_vars; exact Kd.R_mono HO_13.out (fun _ hk => hk.2))⟩, ⟨by (try simp only [hl13_7]); (with_reducible repeat (first | apply zRa | apply zRn | apply zRd)); first | exact HO_24.out | (subst_vars; exact HO_24.out)⟩, ⟨by repeat (first | (with_reducible first | exact HB.out | apply zBa | apply zBn | apply zBd) | exact HB.out)⟩⟩
                   rw [if_pos c72] at H
                   have c72b0 : decide (x143_9 < ((rd_L1 l0 x128_7).length : Int)) = true := zE c72
                   (try (have c72w_hl13_7 := c72b0; simp only [hl13_7] at c72w_hl13_7))
                   clear c72
                   by_cases c73 : 0 ≤ x143_9
                   case neg =>
                    rw [if_neg c73] at H
                    exact absurd H (by simp)
                   rw [if_pos c73] at H
                   have c73b0 : decide (0 ≤ x143_9) = true := zE c73
                   (try (have c73w_hl13_7 := c73b0; simp only [hl13_7] at c73w_hl13_7))
                   clear c73
                   by_cases c74 : x143_9 < ((rd_L1 l0 x128_7).length : Int)
                   case neg =>
                    rw [if_neg c74] at H
                    exact absurd H (by simp)
                   rw [if_pos c74] at H
                   have c74b0 : decide (x143_9 < ((rd_L1 l0 x128_7).length : Int)) = true := zE c74
                   (try (have c74w_hl13_7 := c74b0; simp only [hl13_7] at c74w_hl13_7))
                   clear c74
                   by_cases c75 : x143_9 = x138_8
                   case pos =>
                    rw [if_pos c75] at H
                    have c75b0 : (x143_9 == x138_8) = true := beq_iff_eq.mpr c75
                    have c75b1 : (x143_9 != x138_8) = false := bne_eq_false_iff_eq.mpr c75
                    (try (have c75w_hl13_7 := c75b0; simp only [hl13_7] at c75w_hl13_7))
                    clear c75
                    have H' := zM H
                    clear H
                    have p308 : 0 ≤ (x143_9 : Int) := zT (by assumption)
                    have q308 : x143_9 < ((rd_L1 l0 x128_7).length : Int) := zT (by assumption)
                    obtain ⟨ad308, e308, hx308_0⟩ := Kd.at_int HR301_0.out x143_9 p308 q308
                    cases e308
                    replace hx308_0 := (HB.out.cell (zW w _ hx308_0)).trans hx308_0
                    replace p308 := eq_true p308
                    replace q308 := eq_true q308
                    go_wp2
                    go_roundg k9
                    case measure => have := HJ3.out; have := HK2.out; have := HK3.out; have := HK4.out; have := HK5.out; have := HJ57.out; have := HK7.out; have := HK8.out; have := HK9.out; omega
                    case rel => exact ⟨(x26_9), (x27_9), (wrap64 (x143_9 + 1)), (by first | rfl | (simp; done) | (simp [*]; done)), (by first | rfl | (simp; done) | (simp [*]; done)), (by first | rfl | (simp; done) | (simp [*]; done)), H', ⟨by have := HJ3.out; have := HK2.out; have := HK3.out; have := HK4.out; have := HK5.out; have := HJ57.out; have := HK7.out; have := HK8.out; have := HK9.out; omega⟩, ⟨by (try simp only [hl13_7]); (with_reducible repeat (first | apply Kd.S_alloc | apply Kd.S_drewN | apply Kd.S_drew)); first | exact HO_9.out | (subst_vars; exact HO_9.out)⟩, ⟨by (try simp only [hl13_7]); (with_reducible repeat (first | apply zRa | apply zRn | apply zRd)); first | exact HO_13.out | (subst_vars; exact HO_13.out)⟩, ⟨by (try simp only [hl13_7]); (with_reducible repeat (first | apply zRa | apply zRn | apply zRd)); first | exact HO_24.out | (subst_vars; exact HO_24.out)⟩, ⟨by repeat (first | (with_reducible first | exact HB.out | apply zBa | apply zBn | apply zBd) | exact HB.out)⟩⟩
                   rw [if_neg c75] at H
                   have c75b0 : (x143_9 == x138_8) = false := beq_eq_false_iff_ne.mpr c75
                   have c75b1 : (x143_9 != x138_8) = true := bne_iff_ne.mpr c75
                   (try (have c75w_hl13_7 := c75b0; simp only [hl13_7] at c75w_hl13_7))
                   by_cases c76 : 0 ≤ (rd (rd_L1 l0 x128_7) x143_9)
                   case neg =>
                    rw [if_neg c76] at H
                    exact absurd H (by simp)
                   rw [if_pos c76] at H
                   have c76b0 : decide (0 ≤ (rd (rd_L1 l0 x128_7) x143_9)) = true := zE c76
                   (try (have c76w_hl13_7 := c76b0; simp only [hl13_7] at c76w_hl13_7))
                   clear c76
                   by_cases c77 : (rd (rd_L1 l0 x128_7) x143_9) < (x13_7.length : Int)
                   case neg =>
                    rw [if_neg c77] at H
                    exact absurd H (by simp)
                   rw [if_pos c77] at H
                   have c77b0 : decide ((rd (rd_L1 l0 x128_7) x143_9) < (x13_7.length : Int)) = true := zE c77
                   (try (have c77w_hl13_7 := c77b0; simp only [hl13_7] at c77w_hl13_7))
                   clear c77
                   by_cases c78 : 0 ≤ x128_7
                   case neg =>
                    rw [if_neg c78] at H
                    exact absurd H (by simp)
                   rw [if_pos c78] at H
                   have c78b0 : decide (0 ≤ x128_7) = true := zE c78
                   (try (have c78w_hl13_7 := c78b0; simp only [hl13_7] at c78w_hl13_7))
                   clear c78
                   by_cases c79 : x128_7 < (x9_7.length : Int)
                   case neg =>
                    rw [if_neg c79] at H
                    exact absurd H (by simp)
                   rw [if_pos c79] at H
                   have c79b0 : decide (x128_7 < (x9_7.length : Int)) = true := zE c79
                   (try (have c79w_hl13_7 := c79b0; simp only [hl13_7] at c79w_hl13_7))
                   clear c79
                   by_cases c80 : x143_9 < ((rd_L1 x9_7 x128_7).length : Int)
                   case neg =>
                    rw [if_neg c80] at H
                    exact absurd H (by simp)
                   rw [if_pos c80] at H
                   have c80b0 : decide (x143_9 < ((rd_L1 x9_7 x128_7).length : Int)) = true := zE c80
                   (try (have c80w_hl13_7 := c80b0; simp only [hl13_7] at c80w_hl13_7))
                   clear c80
                   by_cases c81 : (wrap64 ((rd x13_7 (rd (rd_L1 l0 x128_7) x143_9)) - (rd (rd_L1 x9_7 x128_7) x143_9))) < 0
                   case neg =>
                    rw [if_neg c81] at H
                    have c81b0 : decide ((wrap64 ((rd x13_7 (rd (rd_L1 l0 x128_7) x143_9)) - (rd (rd_L1 x9_7 x128_7) x143_9))) < 0) = false := decide_eq_false c81
                    (try (have c81w_hl13_7 := c81b0; simp only [hl13_7] at c81w_hl13_7))
                    clear c81
                    obtain ⟨ji85, hji85⟩ : ∃ j_ : Int, (mn x26_9 (wrap64 ((rd x13_7 (rd (rd_L1 l0 x128_7) x143_9)) - (rd (rd_L1 x9_7 x128_7) x143_9)))) = j_ := ⟨_, rfl⟩
                    replace H : (impl_PassHints.l7 k9 l0 l1 a2 x9_7 x12_3 x13_7 x128_7 (rd_L1 l0 x128_7) x24_8 x138_8 ji85 x27_9 l0 (l0.length : Int) x128_7 ((rd_L1 l0 x128_7).length : Int) x138_8 (rd_L1 l0 x128_7) ((rd_L1 l0 x128_7).length : Int) (wrap64 (x143_9 + 1))) = some (r1, r2, r3) := by first | (rw [hji85] at H; exact H) | (simp only [hji85] at H ⊢; exact H)
                    have hji85_ : (if (wrap64 ((rd x13_7 (rd (rd_L1 l0 x128_7) x143_9)) - (rd (rd_L1 x9_7 x128_7) x143_9))) < x26_9 then (wrap64 ((rd x13_7 (rd (rd_L1 l0 x128_7) x143_9)) - (rd (rd_L1 x9_7 x128_7) x143_9))) else x26_9) = ji85 := hji85
                    have H' := zM H
                    clear H
                    have p308 : 0 ≤ (x143_9 : Int) := zT (by assumption)
                    have q308 : x143_9 < ((rd_L1 l0 x128_7).length : Int) := zT (by assumption)
                    obtain ⟨ad308, e308, hx308_0⟩ := Kd.at_int HR301_0.out x143_9 p308 q308
                    cases e308
                    replace hx308_0 := (HB.out.cell (zW w _ hx308_0)).trans hx308_0
                    replace p308 := eq_true p308
                    replace q308 := eq_true q308
                    try go_wp2
                    have n0_ := zM (Kd.S_drew HO_9.out)
                    have n1_ := zM (zRd HO_13.out)
                    have n2_ := zM (zRd HO_24.out)
                    have n3_ := zM (zBd HB.out)
                    clear HO_9
                    clear HO_13
                    clear HO_24
                    clear HB
                    have HO_9 := n0_
                    have HO_13 := n1_
                    have HO_24 := n2_
                    have HB := n3_
                    clear n0_ n1_ n2_ n3_
                    have p309 : 0 ≤ ((rd (rd_L1 l0 x128_7) x143_9) : Int) := zT (by assumption)
                    have q309 : (rd (rd_L1 l0 x128_7) x143_9) < (x13_7.length : Int) := zT (by assumption)
                    obtain ⟨ad309, e309, hx309_0⟩ := Kd.at_int (Kd.R_reads' HO_13.out).2.2 (rd (rd_L1 l0 x128_7) x143_9) p309 q309
                    cases e309
                    replace p309 := eq_true p309
                    replace q309 := eq_true q309
                    obtain ⟨Ao87, co87, eo87⟩ := Kd.S_slice HO_9.out
                    (first | subst eo87 | (injection eo87 with f1_ f2_ f3_; have f4_ := f1_.symm; have f5_ := f3_.symm; clear f1_ f2_ f3_; subst f4_; subst f5_))
                    have p310 : 0 ≤ (x128_7 : Int) := zT (by assumption)
                    have q310 : x128_7 < (x9_7.length : Int) := zT (by assumption)
                    obtain ⟨ad310, A310_0, c310_0, e310, hx310_0, hl310_0, hi310_0⟩ := at_L1 (Kd.S_reads' HO_9.out).2.2 x128_7 p310 q310
                    cases e310
                    obtain ⟨ce310, hce310, hMe310, hcc310⟩ := Kd.S_get HO_9.out [] x128_7 p310 (by first | exact q310 | exact zT (by assumption) | (have e_ := (Kd.S_reads' HO_9.out).1; omega))
                    obtain ⟨ve310_0, rfl, ge310_0⟩ := hMe310
                    have hv310_0 := hcc310 0 _ rfl
                    rw [Nat.add_zero, show ((Kd.slice 3 (Kd.int .i64))).sz = 1 from rfl, Nat.mul_one] at hv310_0
                    replace hv310_0 := zI (hv310_0.symm.trans hx310_0)
                    rw [hv310_0] at ge310_0
                    have HL310_0 := zM (show Kd.R (Kd.int .i64) 3 _ _ _ _ (rd_L1 x9_7 x128_7) from ge310_0)
                    clear hv310_0 ge310_0
                    clear hcc310 hce310
                    have HR310_0 := zM hi310_0
                    have HC310_0 := zM hl310_0
                    clear hi310_0 hl310_0
                    replace p310 := eq_true p310
                    replace q310 := eq_true q310
                    have p311 : 0 ≤ (x143_9 : Int) := zT (by assumption)
                    have q311 : x143_9 < ((rd_L1 x9_7 x128_7).length : Int) := zT (by assumption)
                    obtain ⟨ad311, e311, hx311_0⟩ := Kd.at_int (by repeat (first | (with_reducible exact HR310_0.out) | (with_reducible first | refine zCa ?_ _ | refine zCn ?_ _ | refine zCd ?_) | exact HR310_0.out)) x143_9 p311 q311
                    cases e311
                    replace p311 := eq_true p311
                    replace q311 := eq_true q311
                    refine start_ (n := 13) (S := fun w' => w'.cell? (ad309.add ((rd (rd_L1 l0 x128_7) x143_9)).toNat) = some (.int .i64 (rd x13_7 (rd (rd_L1 l0 x128_7) x143_9))) ∧ w'.cell? (ad310.add (x128_7).toNat) = some (.slice (some ad311) (rd_L1 x9_7 x128_7).length c310_0) ∧ w'.cell? (ad311.add (x143_9).toNat) = some (.int .i64 (rd (rd_L1 x9_7 x128_7) x143_9))) (ds := []) #[zf,zf,zf,zf,zf,zf,zf,zf,zf,zf,zf,zf,zf] (by kernel_rfl) rfl rfl ⟨hx309_0, hx310_0, hx311_0⟩ (fun hHeld => ?_); refine with_tabW impl_PassHints.tab43 impl_PassHints.bits43 (fun HT_ HW_ => ?_)
                    generalize wr.drew = w86 at HO_9 HO_13 HO_24 HB HL310_0 HR310_0 hx309_0 hx310_0 hx311_0 hHeld ⊢
                    refine pure_ (i := 0) (N := some 151) (v := ?_) (a' := ?_) #[zt,zf,zf,zf,zf,zf,zf,zf,zf,zf,zf,zf,zf] rfl rfl (any_of HT_.out (by kernel_rfl)) (fun _ _ _ h => h) (Or.inl ⟨by rfl, ?_⟩) ?_ ?_
                    rotate_left
                    ·intro w'
                     go_simp
                     with_reducible rfl
                    rotate_left
                    ·simp only [Act.put, zS1, zS2, zS3, i64_w, i32_w]
                     rfl
                    refine pure_ (i := 1) (N := some 152) (v := ?_) (a' := ?_) #[zt,zt,zf,zf,zf,zf,zf,zf,zf,zf,zf,zf,zf] rfl rfl (any_of HT_.out (by kernel_rfl)) (fun _ _ _ h => h) (Or.inl ⟨by rfl, ?_⟩) ?_ ?_
                    rotate_left
                    ·intro w'
                     go_simp
                     with_reducible rfl
                    rotate_left
                    ·simp only [Act.put, zS1, zS2, zS3, i64_w, i32_w]
                     rfl
                    refine pure_ (i := 2) (N := some 153) (v := ?_) (a' := ?_) #[zt,zt,zt,zf,zf,zf,zf,zf,zf,zf,zf,zf,zf] rfl rfl (any_of HT_.out (by kernel_rfl)) (fun _ _ _ h => h) (Or.inl ⟨by rfl, ?_⟩) ?_ ?_
                    rotate_left
                    ·intro w'
                     go_simp
                     with_reducible rfl
                    rotate_left
                    ·simp only [Act.put, zS1, zS2, zS3, i64_w, i32_w]
                     rfl
                    refine pure_ (i := 4) (N := some 155) (v := ?_) (a' := ?_) #[zt,zt,zt,zf,zt,zf,zf,zf,zf,zf,zf,zf,zf] rfl rfl (any_of HT_.out (by kernel_rfl)) (fun _ _ _ h => h) (Or.inl ⟨by rfl, ?_⟩) ?_ ?_
                    rotate_left
                    ·intro w'
                     go_simp
                     with_reducible rfl
                    rotate_left
                    ·simp only [Act.put, zS1, zS2, zS3, i64_w, i32_w]
                     rfl
                    refine pure_ (i := 5) (N := some 156) (v := ?_) (a' := ?_) #[zt,zt,zt,zf,zt,zt,zf,zf,zf,zf,zf,zf,zf] rfl rfl (any_of HT_.out (by kernel_rfl)) (fun _ _ _ h => h) (Or.inl ⟨by rfl, ?_⟩) ?_ ?_
                    rotate_left
                    ·intro w'
                     go_simp
                     with_reducible rfl
                    rotate_left
                    ·simp only [Act.put, zS1, zS2, zS3, i64_w, i32_w]
                     rfl
                    refine pure_ (i := 6) (N := some 157) (v := ?_) (a' := ?_) #[zt,zt,zt,zf,zt,zt,zt,zf,zf,zf,zf,zf,zf] rfl rfl (any_of HT_.out (by kernel_rfl)) (fun _ _ _ h => h) (Or.inl ⟨by rfl, ?_⟩) ?_ ?_
                    rotate_left
                    ·intro w'
                     go_simp
                     with_reducible rfl
                    rotate_left
                    ·simp only [Act.put, zS1, zS2, zS3, i64_w, i32_w]
                     rfl
                    refine pure_ (i := 8) (N := some 159) (v := ?_) (a' := ?_) #[zt,zt,zt,zf,zt,zt,zt,zf,zt,zf,zf,zf,zf] rfl rfl (any_of HT_.out (by kernel_rfl)) (fun _ _ _ h => h) (Or.inl ⟨by rfl, ?_⟩) ?_ ?_
                    rotate_left
                    ·intro w'
                     go_simp
                     with_reducible rfl
                    rotate_left
                    ·simp only [Act.put, zS1, zS2, zS3, i64_w, i32_w]
                     rfl
                    refine take_ (i := 3) (N := some 154) (v := ?_) (a' := ?_) #[zt,zt,zt,zt,zt,zt,zt,zf,zt,zf,zf,zf,zf] rfl rfl (take_ofW HT_.out HW_.out (by kernel_rfl)) (fun _ _ _ h => h) (Or.inl ⟨by rfl, ?_⟩) hHeld ?_ ?_
                    rotate_left
                    ·rintro w' ⟨s0, s1, s2⟩
                     go_simp
                     with_reducible rfl
                    rotate_left
                    ·simp only [Act.put, zS1, zS2, zS3, i64_w, i32_w]
                     rfl
                    refine take_ (i := 7) (N := some 158) (v := ?_) (a' := ?_) #[zt,zt,zt,zt,zt,zt,zt,zt,zt,zf,zf,zf,zf] rfl rfl (take_ofW HT_.out HW_.out (by kernel_rfl)) (fun _ _ _ h => h) (Or.inl ⟨by rfl, ?_⟩) hHeld ?_ ?_
                    rotate_left
                    ·rintro w' ⟨s0, s1, s2⟩
                     go_simp
                     with_reducible rfl
                    rotate_left
                    ·simp only [Act.put, zS1, zS2, zS3, i64_w, i32_w]
                     rfl
                    refine pure_ (i := 9) (N := some 160) (v := ?_) (a' := ?_) #[zt,zt,zt,zt,zt,zt,zt,zt,zt,zt,zf,zf,zf] rfl rfl (any_of HT_.out (by kernel_rfl)) (fun _ _ _ h => h) (Or.inl ⟨by rfl, ?_⟩) ?_ ?_
                    rotate_left
                    ·intro w'
                     go_simp
                     with_reducible rfl
                    rotate_left
                    ·simp only [Act.put, zS1, zS2, zS3, i64_w, i32_w]
                     rfl
                    refine take_ (i := 10) (N := some 161) (v := ?_) (a' := ?_) #[zt,zt,zt,zt,zt,zt,zt,zt,zt,zt,zt,zf,zf] rfl rfl (take_ofW HT_.out HW_.out (by kernel_rfl)) (fun _ _ _ h => h) (Or.inl ⟨by rfl, ?_⟩) hHeld ?_ ?_
                    rotate_left
                    ·rintro w' ⟨s0, s1, s2⟩
                     go_simp
                     with_reducible rfl
                    rotate_left
                    ·simp only [Act.put, zS1, zS2, zS3, i64_w, i32_w]
                     rfl
                    refine pure_ (i := 11) (N := some 162) (v := ?_) (a' := ?_) #[zt,zt,zt,zt,zt,zt,zt,zt,zt,zt,zt,zt,zf] rfl rfl (any_of HT_.out (by kernel_rfl)) (fun _ _ _ h => h) (Or.inl ⟨by rfl, ?_⟩) ?_ ?_
                    rotate_left
                    ·intro w'
                     go_simp
                     with_reducible rfl
                    rotate_left
                    ·simp only [Act.put, zS1, zS2, zS3, i64_w, i32_w]
                     rfl
                    refine pure_ (i := 12) (N := some 30) (v := ?_) (a' := ?_) #[zt,zt,zt,zt,zt,zt,zt,zt,zt,zt,zt,zt,zt] rfl rfl (any_of HT_.out (by kernel_rfl)) (fun _ _ _ h => h) (Or.inl ⟨by rfl, ?_⟩) ?_ ?_
                    rotate_left
                    ·intro w'
                     go_simp
                     with_reducible rfl
                    rotate_left
                    ·simp only [Act.put, zS1, zS2, zS3, i64_w, i32_w]
                     rfl
                    refine done_ (done_of HT_.out (by kernel_rfl)) ?_
                    try go_wp2
                    go_roundg k9
                    case measure => have := HJ3.out; have := HK2.out; have := HK3.out; have := HK4.out; have := HK5.out; have := HJ57.out; have := HK7.out; have := HK8.out; have := HK9.out; omega
                    case rel => exact ⟨(ji85), (x27_9), (wrap64 (x143_9 + 1)), (by first | rfl | (simp; done) | (simp only [← hji85] <;> (first | rfl | simp)) | (simp [*]; done)), (by first | rfl | (simp; done) | (simp [*]; done)), (by first | rfl | (simp; done) | (simp [*]; done)), H', ⟨by have := HJ3.out; have := HK2.out; have := HK3.out; have := HK4.out; have := HK5.out; have := HJ57.out; have := HK7.out; have := HK8.out; have := HK9.out; omega⟩, ⟨by (try simp only [hl13_7]); (with_reducible repeat (first | apply Kd.S_alloc | apply Kd.S_drewN | apply Kd.S_drew)); first | exact HO_9.out | (subst_vars; exact HO_9.out)⟩, ⟨by (try simp only [hl13_7]); (with_reducible repeat (first | apply zRa | apply zRn | apply zRd)); first | exact HO_13.out | (subst_vars; exact HO_13.out)⟩, ⟨by (try simp only [hl13_7]); (with_reducible repeat (first | apply zRa | apply zRn | apply zRd)); first | exact HO_24.out | (subst_vars; exact HO_24.out)⟩, ⟨by repeat (first | (with_reducible first | exact HB.out | apply zBa | apply zBn | apply zBd) | exact HB.out)⟩⟩
                   rw [if_pos c81] at H
                   have c81b0 : decide ((wrap64 ((rd x13_7 (rd (rd_L1 l0 x128_7) x143_9)) - (rd (rd_L1 x9_7 x128_7) x143_9))) < 0) = true := zE c81
                   (try (have c81w_hl13_7 := c81b0; simp only [hl13_7] at c81w_hl13_7))
                   clear c81
                   obtain ⟨ji82, hji82⟩ : ∃ j_ : Int, (mn x26_9 (wrap64 (-(wrap64 ((rd x13_7 (rd (rd_L1 l0 x128_7) x143_9)) - (rd (rd_L1 x9_7 x128_7) x143_9)))))) = j_ := ⟨_, rfl⟩
                   replace H : (impl_PassHints.l7 k9 l0 l1 a2 x9_7 x12_3 x13_7 x128_7 (rd_L1 l0 x128_7) x24_8 x138_8 ji82 (!x27_9) l0 (l0.length : Int) x128_7 ((rd_L1 l0 x128_7).length : Int) x138_8 (rd_L1 l0 x128_7) ((rd_L1 l0 x128_7).length : Int) (wrap64 (x143_9 + 1))) = some (r1, r2, r3) := by first | (rw [hji82] at H; exact H) | (simp only [hji82] at H ⊢; exact H)
                   have hji82_ : (if (wrap64 (-(wrap64 ((rd x13_7 (rd (rd_L1 l0 x128_7) x143_9)) - (rd (rd_L1 x9_7 x128_7) x143_9))))) < x26_9 then (wrap64 (-(wrap64 ((rd x13_7 (rd (rd_L1 l0 x128_7) x143_9)) - (rd (rd_L1 x9_7 x128_7) x143_9))))) else x26_9) = ji82 := hji82
                   have H' := zM H
                   clear H
                   have p308 : 0 ≤ (x143_9 : Int) := zT (by assumption)
                   have q308 : x143_9 < ((rd_L1 l0 x128_7).length : Int) := zT (by assumption)
                   obtain ⟨ad308, e308, hx308_0⟩ := Kd.at_int HR301_0.out x143_9 p308 q308
                   cases e308
                   replace hx308_0 := (HB.out.cell (zW w _ hx308_0)).trans hx308_0
                   replace p308 := eq_true p308
                   replace q308 := eq_true q308
                   try go_wp2
                   have n0_ := zM (Kd.S_drew HO_9.out)
                   have n1_ := zM (zRd HO_13.out)
                   have n2_ := zM (zRd HO_24.out)
                   have n3_ := zM (zBd HB.out)
                   clear HO_9
                   clear HO_13
                   clear HO_24
                   clear HB
                   have HO_9 := n0_
                   have HO_13 := n1_
                   have HO_24 := n2_
                   have HB := n3_
                   clear n0_ n1_ n2_ n3_
                   have p309 : 0 ≤ ((rd (rd_L1 l0 x128_7) x143_9) : Int) := zT (by assumption)
                   have q309 : (rd (rd_L1 l0 x128_7) x143_9) < (x13_7.length : Int) := zT (by assumption)
                   obtain ⟨ad309, e309, hx309_0⟩ := Kd.at_int (Kd.R_reads' HO_13.out).2.2 (rd (rd_L1 l0 x128_7) x143_9) p309 q309
                   cases e309
                   replace p309 := eq_true p309
                   replace q309 := eq_true q309
                   obtain ⟨Ao84, co84, eo84⟩ := Kd.S_slice HO_9.out
                   (first | subst eo84 | (injection eo84 with f1_ f2_ f3_; have f4_ := f1_.symm; have f5_ := f3_.symm; clear f1_ f2_ f3_; subst f4_; subst f5_))
                   have p310 : 0 ≤ (x128_7 : Int) := zT (by assumption)
                   have q310 : x128_7 < (x9_7.length : Int) := zT (by assumption)
                   obtain ⟨ad310, A310_0, c310_0, e310, hx310_0, hl310_0, hi310_0⟩ := at_L1 (Kd.S_reads' HO_9.out).2.2 x128_7 p310 q310
                   cases e310
                   obtain ⟨ce310, hce310, hMe310, hcc310⟩ := Kd.S_get HO_9.out [] x128_7 p310 (by first | exact q310 | exact zT (by assumption) | (have e_ := (Kd.S_reads' HO_9.out).1; omega))
                   obtain ⟨ve310_0, rfl, ge310_0⟩ := hMe310
                   have hv310_0 := hcc310 0 _ rfl
                   rw [Nat.add_zero, show ((Kd.slice 3 (Kd.int .i64))).sz = 1 from rfl, Nat.mul_one] at hv310_0
                   replace hv310_0 := zI (hv310_0.symm.trans hx310_0)
                   rw [hv310_0] at ge310_0
                   have HL310_0 := zM (show Kd.R (Kd.int .i64) 3 _ _ _ _ (rd_L1 x9_7 x128_7) from ge310_0)
                   clear hv310_0 ge310_0
                   clear hcc310 hce310
                   have HR310_0 := zM hi310_0
                   have HC310_0 := zM hl310_0
                   clear hi310_0 hl310_0
                   replace p310 := eq_true p310
                   replace q310 := eq_true q310
                   have p311 : 0 ≤ (x143_9 : Int) := zT (by assumption)
                   have q311 : x143_9 < ((rd_L1 x9_7 x128_7).length : Int) := zT (by assumption)
                   obtain ⟨ad311, e311, hx311_0⟩ := Kd.at_int (by repeat (first | (with_reducible exact HR310_0.out) | (with_reducible first | refine zCa ?_ _ | refine zCn ?_ _ | refine zCd ?_) | exact HR310_0.out)) x143_9 p311 q311
                   cases e311
                   replace p311 := eq_true p311
                   replace q311 := eq_true q311
                   refine start_ (n := 13) (S := fun w' => w'.cell? (ad309.add ((rd (rd_L1 l0 x128_7) x143_9)).toNat) = some (.int .i64 (rd x13_7 (rd (rd_L1 l0 x128_7) x143_9))) ∧ w'.cell? (ad310.add (x128_7).toNat) = some (.slice (some ad311) (rd_L1 x9_7 x128_7).length c310_0) ∧ w'.cell? (ad311.add (x143_9).toNat) = some (.int .i64 (rd (rd_L1 x9_7 x128_7) x143_9))) (ds := []) #[zf,zf,zf,zf,zf,zf,zf,zf,zf,zf,zf,zf,zf] (by kernel_rfl) rfl rfl ⟨hx309_0, hx310_0, hx311_0⟩ (fun hHeld => ?_); refine with_tabW impl_PassHints.tab43 impl_PassHints.bits43 (fun HT_ HW_ => ?_)
                   generalize wr.drew = w83 at HO_9 HO_13 HO_24 HB HL310_0 HR310_0 hx309_0 hx310_0 hx311_0 hHeld ⊢
                   refine pure_ (i := 0) (N := some 151) (v := ?_) (a' := ?_) #[zt,zf,zf,zf,zf,zf,zf,zf,zf,zf,zf,zf,zf] rfl rfl (any_of HT_.out (by kernel_rfl)) (fun _ _ _ h => h) (Or.inl ⟨by rfl, ?_⟩) ?_ ?_
                   rotate_left
                   ·intro w'
                    go_simp
                    with_reducible rfl
                   rotate_left
                   ·simp only [Act.put, zS1, zS2, zS3, i64_w, i32_w]
                    rfl
                   refine pure_ (i := 1) (N := some 152) (v := ?_) (a' := ?_) #[zt,zt,zf,zf,zf,zf,zf,zf,zf,zf,zf,zf,zf] rfl rfl (any_of HT_.out (by kernel_rfl)) (fun _ _ _ h => h) (Or.inl ⟨by rfl, ?_⟩) ?_ ?_
                   rotate_left
                   ·intro w'
                    go_simp
                    with_reducible rfl
                   rotate_left
                   ·simp only [Act.put, zS1, zS2, zS3, i64_w, i32_w]
                    rfl
                   refine pure_ (i := 2) (N := some 153) (v := ?_) (a' := ?_) #[zt,zt,zt,zf,zf,zf,zf,zf,zf,zf,zf,zf,zf] rfl rfl (any_of HT_.out (by kernel_rfl)) (fun _ _ _ h => h) (Or.inl ⟨by rfl, ?_⟩) ?_ ?_
                   rotate_left
                   ·intro w'
                    go_simp
                    with_reducible rfl
                   rotate_left
                   ·simp only [Act.put, zS1, zS2, zS3, i64_w, i32_w]
                    rfl
                   refine pure_ (i := 4) (N := some 155) (v := ?_) (a' := ?_) #[zt,zt,zt,zf,zt,zf,zf,zf,zf,zf,zf,zf,zf] rfl rfl (any_of HT_.out (by kernel_rfl)) (fun _ _ _ h => h) (Or.inl ⟨by rfl, ?_⟩) ?_ ?_
                   rotate_left
                   ·intro w'
                    go_simp
                    with_reducible rfl
                   rotate_left
                   ·simp only [Act.put, zS1, zS2, zS3, i64_w, i32_w]
                    rfl
                   refine pure_ (i := 5) (N := some 156) (v := ?_) (a' := ?_) #[zt,zt,zt,zf,zt,zt,zf,zf,zf,zf,zf,zf,zf] rfl rfl (any_of HT_.out (by kernel_rfl)) (fun _ _ _ h => h) (Or.inl ⟨by rfl, ?_⟩) ?_ ?_
                   rotate_left
                   ·intro w'
                    go_simp
                    with_reducible rfl
                   rotate_left
                   ·simp only [Act.put, zS1, zS2, zS3, i64_w, i32_w]
                    rfl
                   refine pure_ (i := 6) (N := some 157) (v := ?_) (a' := ?_) #[zt,zt,zt,zf,zt,zt,zt,zf,zf,zf,zf,zf,zf] rfl rfl (any_of HT_.out (by kernel_rfl)) (fun _ _ _ h => h) (Or.inl ⟨by rfl, ?_⟩) ?_ ?_
                   rotate_left
                   ·intro w'
                    go_simp
                    with_reducible rfl
                   rotate_left
                   ·simp only [Act.put, zS1, zS2, zS3, i64_w, i32_w]
                    rfl
                   refine pure_ (i := 8) (N := some 159) (v := ?_) (a' := ?_) #[zt,zt,zt,zf,zt,zt,zt,zf,zt,zf,zf,zf,zf] rfl rfl (any_of HT_.out (by kernel_rfl)) (fun _ _ _ h => h) (Or.inl ⟨by rfl, ?_⟩) ?_ ?_
                   rotate_left
                   ·intro w'
                    go_simp
                    with_reducible rfl
                   rotate_left
                   ·simp only [Act.put, zS1, zS2, zS3, i64_w, i32_w]
                    rfl
                   refine take_ (i := 3) (N := some 154) (v := ?_) (a' := ?_) #[zt,zt,zt,zt,zt,zt,zt,zf,zt,zf,zf,zf,zf] rfl rfl (take_ofW HT_.out HW_.out (by kernel_rfl)) (fun _ _ _ h => h) (Or.inl ⟨by rfl, ?_⟩) hHeld ?_ ?_
                   rotate_left
                   ·rintro w' ⟨s0, s1, s2⟩
                    go_simp
                    with_reducible rfl
                   rotate_left
                   ·simp only [Act.put, zS1, zS2, zS3, i64_w, i32_w]
                    rfl
                   refine take_ (i := 7) (N := some 158) (v := ?_) (a' := ?_) #[zt,zt,zt,zt,zt,zt,zt,zt,zt,zf,zf,zf,zf] rfl rfl (take_ofW HT_.out HW_.out (by kernel_rfl)) (fun _ _ _ h => h) (Or.inl ⟨by rfl, ?_⟩) hHeld ?_ ?_
                   rotate_left
                   ·rintro w' ⟨s0, s1, s2⟩
                    go_simp
                    with_reducible rfl
                   rotate_left
                   ·simp only [Act.put, zS1, zS2, zS3, i64_w, i32_w]
                    rfl
                   refine pure_ (i := 9) (N := some 160) (v := ?_) (a' := ?_) #[zt,zt,zt,zt,zt,zt,zt,zt,zt,zt,zf,zf,zf] rfl rfl (any_of HT_.out (by kernel_rfl)) (fun _ _ _ h => h) (Or.inl ⟨by rfl, ?_⟩) ?_ ?_
                   rotate_left
                   ·intro w'
                    go_simp
                    with_reducible rfl
                   rotate_left
                   ·simp only [Act.put, zS1, zS2, zS3, i64_w, i32_w]
                    rfl
                   refine take_ (i := 10) (N := some 161) (v := ?_) (a' := ?_) #[zt,zt,zt,zt,zt,zt,zt,zt,zt,zt,zt,zf,zf] rfl rfl (take_ofW HT_.out HW_.out (by kernel_rfl)) (fun _ _ _ h => h) (Or.inl ⟨by rfl, ?_⟩) hHeld ?_ ?_
                   rotate_left
                   ·rintro w' ⟨s0, s1, s2⟩
                    go_simp
                    with_reducible rfl
                   rotate_left
                   ·simp only [Act.put, zS1, zS2, zS3, i64_w, i32_w]
                    rfl
                   refine pure_ (i := 11) (N := some 162) (v := ?_) (a' := ?_) #[zt,zt,zt,zt,zt,zt,zt,zt,zt,zt,zt,zt,zf] rfl rfl (any_of HT_.out (by kernel_rfl)) (fun _ _ _ h => h) (Or.inl ⟨by rfl, ?_⟩) ?_ ?_
                   rotate_left
                   ·intro w'
                    go_simp
                    with_reducible rfl
                   rotate_left
                   ·simp only [Act.put, zS1, zS2, zS3, i64_w, i32_w]
                    rfl
                   refine pure_ (i := 12) (N := some 30) (v := ?_) (a' := ?_) #[zt,zt,zt,zt,zt,zt,zt,zt,zt,zt,zt,zt,zt] rfl rfl (any_of HT_.out (by kernel_rfl)) (fun _ _ _ h => h) (Or.inl ⟨by rfl, ?_⟩) ?_ ?_
                   rotate_left
                   ·intro w'
                    go_simp
                    with_reducible rfl
                   rotate_left
                   ·simp only [Act.put, zS1, zS2, zS3, i64_w, i32_w]
                    rfl
                   refine done_ (done_of HT_.out (by kernel_rfl)) ?_
                   try go_wp2
                   go_roundg k9
                   case measure => have := HJ3.out; have := HK2.out; have := HK3.out; have := HK4.out; have := HK5.out; have := HJ57.out; have := HK7.out; have := HK8.out; have := HK9.out; omega
                   case rel => exact ⟨(ji82), (!x27_9), (wrap64 (x143_9 + 1)), (by first | rfl | (simp; done) | (simp only [← hji82] <;> (first | rfl | simp)) | (simp [*]; done)), (by first | rfl | (simp; done) | (simp [*]; done)), (by first | rfl | (simp; done) | (simp [*]; done)), H', ⟨by have := HJ3.out; have := HK2.out; have := HK3.out; have := HK4.out; have := HK5.out; have := HJ57.out; have := HK7.out; have := HK8.out; have := HK9.out; omega⟩, ⟨by (try simp only [hl13_7]); (with_reducible repeat (first | apply Kd.S_alloc | apply Kd.S_drewN | apply Kd.S_drew)); first | exact HO_9.out | (subst_vars; exact HO_9.out)⟩, ⟨by (try simp only [hl13_7]); (with_reducible repeat (first | apply zRa | apply zRn | apply zRd)); first | exact HO_13.out | (subst_vars; exact HO_13.out)⟩, ⟨by (try simp only [hl13_7]); (with_reducible repeat (first | apply zRa | apply zRn | apply zRd)); first | exact HO_24.out | (subst_vars; exact HO_24.out)⟩, ⟨by repeat (first | (with_reducible first | exact HB.out | apply zBa | apply zBn | apply zBd) | exact HB.out)⟩⟩

end Go.Proofs.Ytpphjbogijjnpaa.PFnParities
