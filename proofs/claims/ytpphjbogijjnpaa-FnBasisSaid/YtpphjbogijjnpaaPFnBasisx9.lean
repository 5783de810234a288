-- Written by a turned copy of the print (see the notes of this repo): plain functions and their walks. Lean checks it.
import Derived.Test.YtpphjbogijjnpaaPFnBasisx0
import Derived.Test.YtpphjbogijjnpaaPFnBasisx2
import Derived.Test.YtpphjbogijjnpaaPFnBasisx4
import Derived.Test.YtpphjbogijjnpaaPFnBasisx6
import Derived.Test.YtpphjbogijjnpaaPFnBasisx7
import Derived.Test.YtpphjbogijjnpaaPFnBasisx8
namespace Go.Proofs.Ytpphjbogijjnpaa.PFnBasis
open Go.RowKit Go.Proofs.YtpphjbogijjnpaaW.PrintWords Go.Proofs.YtpphjbogijjnpaaW.PrintLast Go.Proofs.YtpphjbogijjnpaaW.PrintMore
attribute [local go_sem] max2_int min2_int max_two min_two max_three min_three max_four min_four   -- for this text's walks alone
set_option linter.unusedVariables false
set_option linter.unusedSimpArgs false

/-! ### laws_FnBasis: function 8 -/
mutual
def laws_FnBasis.j0 : Nat → List Int → List (List Int) → Int → List (List Int) → Bool → Bool → Option (Bool)
  | 0, _, _, _, _, _, _ => none
  | k + 1, x0, x3, x4, x5, x6, x48 => if x48 = true then (some false) else (if x6 = true then (if 0 ≤ x4 then (if (x4 : Int).toNat ≤ 35184372088832 then (laws_FnBasis.l0 k x0 x3 x4 x5 (List.replicate (x4 : Int).toNat 0) 0) else (none)) else (none)) else ((impl_Basis.f k (([(([0, 1] : List Int))] : List (List Int))) 2).bind fun bt243 => (if bt243.2 = true then ((laws_sameRows.f k bt243.1 (([(([1, 1] : List Int))] : List (List Int)))).bind fun t253 => (some t253)) else (some false))))
def laws_FnBasis.l0 : Nat → List Int → List (List Int) → Int → List (List Int) → List Int → Int → Option (Bool)
  | 0, _, _, _, _, _, _ => none
  | k + 1, x0, x3, x4, x5, x11, x12 => if x12 < (x5.length : Int) then (if 0 ≤ x12 then (if ((rd_L1 x5 x12).length : Int) = x4 then (laws_FnBasis.l1 k x0 x3 x4 x5 x11 x12 0) else (some false)) else (none)) else ((impl_Fails.f k x3 x11).bind fun bt257 => (if bt257.2 = true then (some ((bt257.1.length : Int) == 0)) else (some false)))
def laws_FnBasis.j3 : Nat → List Int → List (List Int) → Int → List (List Int) → List Int → Int → Option (Bool)
  | 0, _, _, _, _, _, _ => none
  | k + 1, x0, x3, x4, x5, x11, x12 => laws_FnBasis.l2 k x0 x3 x4 x5 x11 x12 false 0
def laws_FnBasis.l2 : Nat → List Int → List (List Int) → Int → List (List Int) → List Int → Int → Bool → Int → Option (Bool)
  | 0, _, _, _, _, _, _, _, _ => none
  | k + 1, x0, x3, x4, x5, x11, x12, x14, x15 => if x15 < x4 then (if 0 ≤ x12 then (if x12 < (x5.length : Int) then (if 0 ≤ x15 then (if x15 < ((rd_L1 x5 x12).length : Int) then (laws_FnBasis.l3 k x0 x3 x4 x5 x11 x12 x14 x15 ((rd (rd_L1 x5 x12) x15) == 1) 0) else (none)) else (none)) else (none)) else (none)) else (if x14 = true then (laws_FnBasis.l0 k x0 x3 x4 x5 x11 (wrap64 (x12 + 1))) else (some false))
def laws_FnBasis.l3 : Nat → List Int → List (List Int) → Int → List (List Int) → List Int → Int → Bool → Int → Bool → Int → Option (Bool)
  | 0, _, _, _, _, _, _, _, _, _, _ => none
  | k + 1, x0, x3, x4, x5, x11, x12, x14, x15, x16, x17 => if x17 < (x5.length : Int) then (if x16 = true then (if x17 = x12 then (laws_FnBasis.l3 k x0 x3 x4 x5 x11 x12 x14 x15 true (wrap64 (x17 + 1))) else (if 0 ≤ x17 then (if 0 ≤ x15 then (if x15 < ((rd_L1 x5 x17).length : Int) then (laws_FnBasis.l3 k x0 x3 x4 x5 x11 x12 x14 x15 ((rd (rd_L1 x5 x17) x15) == 0) (wrap64 (x17 + 1))) else (none)) else (none)) else (none))) else (laws_FnBasis.l3 k x0 x3 x4 x5 x11 x12 x14 x15 false (wrap64 (x17 + 1)))) else (if x14 = true then (laws_FnBasis.l2 k x0 x3 x4 x5 x11 x12 true (wrap64 (x15 + 1))) else (laws_FnBasis.l2 k x0 x3 x4 x5 x11 x12 x16 (wrap64 (x15 + 1))))
def laws_FnBasis.l1 : Nat → List Int → List (List Int) → Int → List (List Int) → List Int → Int → Int → Option (Bool)
  | 0, _, _, _, _, _, _, _ => none
  | k + 1, x0, x3, x4, x5, x11, x12, x13 => if x13 < x4 then ((laws_at.f x0 x12).bind fun t262 => (if (Int.tmod t262 2) = 0 then (if 0 ≤ x13 then (if x13 < (x11.length : Int) then (if 0 ≤ x12 then (if x12 < (x5.length : Int) then (if x13 < ((rd_L1 x5 x12).length : Int) then (laws_FnBasis.l1 k x0 x3 x4 x5 (x11.set (x13 : Int).toNat (Go.bits .xor .i64 (rd x11 x13) (rd (rd_L1 x5 x12) x13))) x12 (wrap64 (x13 + 1))) else (none)) else (none)) else (none)) else (none)) else (none)) else (laws_FnBasis.j3 k x0 x3 x4 x5 x11 x12))) else (laws_FnBasis.j3 k x0 x3 x4 x5 x11 x12)
end
def laws_FnBasis.f (k : Nat) (l0 : List Int) : Option (Bool) := (laws_big.f l0).bind fun t224 => (if t224 = true then (some true) else ((spec_DrawBasis.f k l0).bind fun bt225 => ((impl_Basis.f k bt225.1 bt225.2).bind fun bt229 => ((spec_Basis.f k bt225.1 bt225.2).bind fun bt233 => (if (bt229.2 != bt233.2) = true then (laws_FnBasis.j0 k l0 bt225.1 bt225.2 bt229.1 bt229.2 true) else (laws_FnBasis.j0 k l0 bt225.1 bt225.2 bt229.1 bt229.2 ((bt229.1.length : Int) != (bt233.1.length : Int))))))))
theorem laws_FnBasis.mono_l : ∀ k, (∀ y0 y1 y2 y3 y4 y5, LeO (laws_FnBasis.j0 k y0 y1 y2 y3 y4 y5) (laws_FnBasis.j0 (k + 1) y0 y1 y2 y3 y4 y5)) ∧ (∀ y0 y1 y2 y3 y4 y5, LeO (laws_FnBasis.l0 k y0 y1 y2 y3 y4 y5) (laws_FnBasis.l0 (k + 1) y0 y1 y2 y3 y4 y5)) ∧ (∀ y0 y1 y2 y3 y4 y5, LeO (laws_FnBasis.j3 k y0 y1 y2 y3 y4 y5) (laws_FnBasis.j3 (k + 1) y0 y1 y2 y3 y4 y5)) ∧ (∀ y0 y1 y2 y3 y4 y5 y6 y7, LeO (laws_FnBasis.l2 k y0 y1 y2 y3 y4 y5 y6 y7) (laws_FnBasis.l2 (k + 1) y0 y1 y2 y3 y4 y5 y6 y7)) ∧ (∀ y0 y1 y2 y3 y4 y5 y6 y7 y8 y9, LeO (laws_FnBasis.l3 k y0 y1 y2 y3 y4 y5 y6 y7 y8 y9) (laws_FnBasis.l3 (k + 1) y0 y1 y2 y3 y4 y5 y6 y7 y8 y9)) ∧ (∀ y0 y1 y2 y3 y4 y5 y6, LeO (laws_FnBasis.l1 k y0 y1 y2 y3 y4 y5 y6) (laws_FnBasis.l1 (k + 1) y0 y1 y2 y3 y4 y5 y6))
  | 0 => ⟨fun _ _ _ _ _ _ r h => by simp [laws_FnBasis.j0] at h, fun _ _ _ _ _ _ r h => by simp [laws_FnBasis.l0] at h, fun _ _ _ _ _ _ r h => by simp [laws_FnBasis.j3] at h, fun _ _ _ _ _ _ _ _ r h => by simp [laws_FnBasis.l2] at h, fun _ _ _ _ _ _ _ _ _ _ r h => by simp [laws_FnBasis.l3] at h, fun _ _ _ _ _ _ _ r h => by simp [laws_FnBasis.l1] at h⟩
  | k + 1 => by
    obtain ⟨ih0, ih1, ih2, ih3, ih4, ih5⟩ := laws_FnBasis.mono_l k
    refine ⟨?_, ?_, ?_, ?_, ?_, ?_⟩
    · intro y0 y1 y2 y3 y4 y5
      unfold laws_FnBasis.j0
      repeat' first
      | (with_reducible exact ih0 _ _ _ _ _ _)
      | (with_reducible exact ih1 _ _ _ _ _ _)
      | (with_reducible exact ih2 _ _ _ _ _ _)
      | (with_reducible exact ih3 _ _ _ _ _ _ _ _)
      | (with_reducible exact ih4 _ _ _ _ _ _ _ _ _ _)
      | (with_reducible exact ih5 _ _ _ _ _ _ _)
      | (with_reducible exact impl_Basis.mono _ _ _)
      | (with_reducible exact impl_Fails.mono _ _ _)
      | (with_reducible exact laws_sameRows.mono _ _ _)
      | (with_reducible exact spec_Basis.mono _ _ _)
      | (with_reducible exact spec_DrawBasis.mono _ _)
      | (with_reducible exact LeO.refl _)
      | (with_reducible exact LeO.none _)
      | (with_reducible refine LeO.ite ?_ ?_)
      | (with_reducible refine LeO.bind ?_ (fun _ => ?_))
      | exact ih0 _ _ _ _ _ _
      | exact ih1 _ _ _ _ _ _
      | exact ih2 _ _ _ _ _ _
      | exact ih3 _ _ _ _ _ _ _ _
      | exact ih4 _ _ _ _ _ _ _ _ _ _
      | exact ih5 _ _ _ _ _ _ _
      | exact impl_Basis.mono _ _ _
      | exact impl_Fails.mono _ _ _
      | exact laws_sameRows.mono _ _ _
      | exact spec_Basis.mono _ _ _
      | exact spec_DrawBasis.mono _ _
      | exact LeO.none _
      | refine LeO.ite ?_ ?_
      | refine LeO.bind ?_ (fun _ => ?_)
    · intro y0 y1 y2 y3 y4 y5
      unfold laws_FnBasis.l0
      repeat' first
      | (with_reducible exact ih0 _ _ _ _ _ _)
      | (with_reducible exact ih1 _ _ _ _ _ _)
      | (with_reducible exact ih2 _ _ _ _ _ _)
      | (with_reducible exact ih3 _ _ _ _ _ _ _ _)
      | (with_reducible exact ih4 _ _ _ _ _ _ _ _ _ _)
      | (with_reducible exact ih5 _ _ _ _ _ _ _)
      | (with_reducible exact impl_Basis.mono _ _ _)
      | (with_reducible exact impl_Fails.mono _ _ _)
      | (with_reducible exact laws_sameRows.mono _ _ _)
      | (with_reducible exact spec_Basis.mono _ _ _)
      | (with_reducible exact spec_DrawBasis.mono _ _)
      | (with_reducible exact LeO.refl _)
      | (with_reducible exact LeO.none _)
      | (with_reducible refine LeO.ite ?_ ?_)
      | (with_reducible refine LeO.bind ?_ (fun _ => ?_))
      | exact ih0 _ _ _ _ _ _
      | exact ih1 _ _ _ _ _ _
      | exact ih2 _ _ _ _ _ _
      | exact ih3 _ _ _ _ _ _ _ _
      | exact ih4 _ _ _ _ _ _ _ _ _ _
      | exact ih5 _ _ _ _ _ _ _
      | exact impl_Basis.mono _ _ _
      | exact impl_Fails.mono _ _ _
      | exact laws_sameRows.mono _ _ _
      | exact spec_Basis.mono _ _ _
      | exact spec_DrawBasis.mono _ _
      | exact LeO.none _
      | refine LeO.ite ?_ ?_
      | refine LeO.bind ?_ (fun _ => ?_)
    · intro y0 y1 y2 y3 y4 y5
      unfold laws_FnBasis.j3
      repeat' first
      | (with_reducible exact ih0 _ _ _ _ _ _)
      | (with_reducible exact ih1 _ _ _ _ _ _)
      | (with_reducible exact ih2 _ _ _ _ _ _)
      | (with_reducible exact ih3 _ _ _ _ _ _ _ _)
      | (with_reducible exact ih4 _ _ _ _ _ _ _ _ _ _)
      | (with_reducible exact ih5 _ _ _ _ _ _ _)
      | (with_reducible exact impl_Basis.mono _ _ _)
      | (with_reducible exact impl_Fails.mono _ _ _)
      | (with_reducible exact laws_sameRows.mono _ _ _)
      | (with_reducible exact spec_Basis.mono _ _ _)
      | (with_reducible exact spec_DrawBasis.mono _ _)
      | (with_reducible exact LeO.refl _)
      | (with_reducible exact LeO.none _)
      | (with_reducible refine LeO.ite ?_ ?_)
      | (with_reducible refine LeO.bind ?_ (fun _ => ?_))
      | exact ih0 _ _ _ _ _ _
      | exact ih1 _ _ _ _ _ _
      | exact ih2 _ _ _ _ _ _
      | exact ih3 _ _ _ _ _ _ _ _
      | exact ih4 _ _ _ _ _ _ _ _ _ _
      | exact ih5 _ _ _ _ _ _ _
      | exact impl_Basis.mono _ _ _
      | exact impl_Fails.mono _ _ _
      | exact laws_sameRows.mono _ _ _
      | exact spec_Basis.mono _ _ _
      | exact spec_DrawBasis.mono _ _
      | exact LeO.none _
      | refine LeO.ite ?_ ?_
      | refine LeO.bind ?_ (fun _ => ?_)
    · intro y0 y1 y2 y3 y4 y5 y6 y7
      unfold laws_FnBasis.l2
      repeat' first
      | (with_reducible exact ih0 _ _ _ _ _ _)
      | (with_reducible exact ih1 _ _ _ _ _ _)
      | (with_reducible exact ih2 _ _ _ _ _ _)
      | (with_reducible exact ih3 _ _ _ _ _ _ _ _)
      | (with_reducible exact ih4 _ _ _ _ _ _ _ _ _ _)
      | (with_reducible exact ih5 _ _ _ _ _ _ _)
      | (with_reducible exact impl_Basis.mono _ _ _)
      | (with_reducible exact impl_Fails.mono _ _ _)
      | (with_reducible exact laws_sameRows.mono _ _ _)
      | (with_reducible exact spec_Basis.mono _ _ _)
      | (with_reducible exact spec_DrawBasis.mono _ _)
      | (with_reducible exact LeO.refl _)
      | (with_reducible exact LeO.none _)
      | (with_reducible refine LeO.ite ?_ ?_)
      | (with_reducible refine LeO.bind ?_ (fun _ => ?_))
      | exact ih0 _ _ _ _ _ _
      | exact ih1 _ _ _ _ _ _
      | exact ih2 _ _ _ _ _ _
      | exact ih3 _ _ _ _ _ _ _ _
      | exact ih4 _ _ _ _ _ _ _ _ _ _
      | exact ih5 _ _ _ _ _ _ _
      | exact impl_Basis.mono _ _ _
      | exact impl_Fails.mono _ _ _
      | exact laws_sameRows.mono _ _ _
      | exact spec_Basis.mono _ _ _
      | exact spec_DrawBasis.mono _ _
      | exact LeO.none _
      | refine LeO.ite ?_ ?_
      | refine LeO.bind ?_ (fun _ => ?_)
    · intro y0 y1 y2 y3 y4 y5 y6 y7 y8 y9
      unfold laws_FnBasis.l3
      repeat' first
      | (with_reducible exact ih0 _ _ _ _ _ _)
      | (with_reducible exact ih1 _ _ _ _ _ _)
      | (with_reducible exact ih2 _ _ _ _ _ _)
      | (with_reducible exact ih3 _ _ _ _ _ _ _ _)
      | (with_reducible exact ih4 _ _ _ _ _ _ _ _ _ _)
      | (with_reducible exact ih5 _ _ _ _ _ _ _)
      | (with_reducible exact impl_Basis.mono _ _ _)
      | (with_reducible exact impl_Fails.mono _ _ _)
      | (with_reducible exact laws_sameRows.mono _ _ _)
      | (with_reducible exact spec_Basis.mono _ _ _)
      | (with_reducible exact spec_DrawBasis.mono _ _)
      | (with_reducible exact LeO.refl _)
      | (with_reducible exact LeO.none _)
      | (with_reducible refine LeO.ite ?_ ?_)
      | (with_reducible refine LeO.bind ?_ (fun _ => ?_))
      | exact ih0 _ _ _ _ _ _
      | exact ih1 _ _ _ _ _ _
      | exact ih2 _ _ _ _ _ _
      | exact ih3 _ _ _ _ _ _ _ _
      | exact ih4 _ _ _ _ _ _ _ _ _ _
      | exact ih5 _ _ _ _ _ _ _
      | exact impl_Basis.mono _ _ _
      | exact impl_Fails.mono _ _ _
      | exact laws_sameRows.mono _ _ _
      | exact spec_Basis.mono _ _ _
      | exact spec_DrawBasis.mono _ _
      | exact LeO.none _
      | refine LeO.ite ?_ ?_
      | refine LeO.bind ?_ (fun _ => ?_)
    · intro y0 y1 y2 y3 y4 y5 y6
      unfold laws_FnBasis.l1
      repeat' first
      | (with_reducible exact ih0 _ _ _ _ _ _)
      | (with_reducible exact ih1 _ _ _ _ _ _)
      | (with_reducible exact ih2 _ _ _ _ _ _)
      | (with_reducible exact ih3 _ _ _ _ _ _ _ _)
      | (with_reducible exact ih4 _ _ _ _ _ _ _ _ _ _)
      | (with_reducible exact ih5 _ _ _ _ _ _ _)
      | (with_reducible exact impl_Basis.mono _ _ _)
      | (with_reducible exact impl_Fails.mono _ _ _)
      | (with_reducible exact laws_sameRows.mono _ _ _)
      | (with_reducible exact spec_Basis.mono _ _ _)
      | (with_reducible exact spec_DrawBasis.mono _ _)
      | (with_reducible exact LeO.refl _)
      | (with_reducible exact LeO.none _)
      | (with_reducible refine LeO.ite ?_ ?_)
      | (with_reducible refine LeO.bind ?_ (fun _ => ?_))
      | exact ih0 _ _ _ _ _ _
      | exact ih1 _ _ _ _ _ _
      | exact ih2 _ _ _ _ _ _
      | exact ih3 _ _ _ _ _ _ _ _
      | exact ih4 _ _ _ _ _ _ _ _ _ _
      | exact ih5 _ _ _ _ _ _ _
      | exact impl_Basis.mono _ _ _
      | exact impl_Fails.mono _ _ _
      | exact laws_sameRows.mono _ _ _
      | exact spec_Basis.mono _ _ _
      | exact spec_DrawBasis.mono _ _
      | exact LeO.none _
      | refine LeO.ite ?_ ?_
      | refine LeO.bind ?_ (fun _ => ?_)
theorem laws_FnBasis.mono : ∀ a0 k, LeO (laws_FnBasis.f k a0) (laws_FnBasis.f (k + 1) a0) := by
  intro a0 k
  obtain ⟨ih0, ih1, ih2, ih3, ih4, ih5⟩ := laws_FnBasis.mono_l k
  unfold laws_FnBasis.f
  repeat' first
      | (with_reducible exact ih0 _ _ _ _ _ _)
      | (with_reducible exact ih1 _ _ _ _ _ _)
      | (with_reducible exact ih2 _ _ _ _ _ _)
      | (with_reducible exact ih3 _ _ _ _ _ _ _ _)
      | (with_reducible exact ih4 _ _ _ _ _ _ _ _ _ _)
      | (with_reducible exact ih5 _ _ _ _ _ _ _)
      | (with_reducible exact impl_Basis.mono _ _ _)
      | (with_reducible exact impl_Fails.mono _ _ _)
      | (with_reducible exact laws_sameRows.mono _ _ _)
      | (with_reducible exact spec_Basis.mono _ _ _)
      | (with_reducible exact spec_DrawBasis.mono _ _)
      | (with_reducible exact LeO.refl _)
      | (with_reducible exact LeO.none _)
      | (with_reducible refine LeO.ite ?_ ?_)
      | (with_reducible refine LeO.bind ?_ (fun _ => ?_))
      | exact ih0 _ _ _ _ _ _
      | exact ih1 _ _ _ _ _ _
      | exact ih2 _ _ _ _ _ _
      | exact ih3 _ _ _ _ _ _ _ _
      | exact ih4 _ _ _ _ _ _ _ _ _ _
      | exact ih5 _ _ _ _ _ _ _
      | exact impl_Basis.mono _ _ _
      | exact impl_Fails.mono _ _ _
      | exact laws_sameRows.mono _ _ _
      | exact spec_Basis.mono _ _ _
      | exact spec_DrawBasis.mono _ _
      | exact LeO.none _
      | refine LeO.ite ?_ ?_
      | refine LeO.bind ?_ (fun _ => ?_)
def laws_FnBasis.T20 : Bool × List (List Nat × List Nat) := (true, [([], []), ([], []), ([], []), ([], []), ([2, 3], [2, 3]), ([4], [4]), ([], []), ([], []), ([6, 7], [6, 7]), ([8], [8]), ([], []), ([9, 10], [9, 10]), ([11], [11]), ([5, 12], [5, 12]), ([0, 1, 0, 1, 2, 3, 4, 5, 6, 7, 8, 9, 10, 11, 12, 13], [0, 1]), ([14, 13, 0, 1, 2, 3, 4, 5, 6, 7, 8, 9, 10, 11, 12, 13], [13, 14])])
def laws_FnBasis.B20 : List Nat := [0, 0, 0, 0, 12, 28, 0, 0, 192, 448, 0, 1984, 4032, 8188, 16383, 32767]
theorem laws_FnBasis.tab20 : rtab .any (opsOf Try.f8 20) = laws_FnBasis.T20 := by kernel_rfl
theorem laws_FnBasis.bits20 : waitsOk laws_FnBasis.T20.2 laws_FnBasis.B20 = true := by kernel_rfl
set_option maxHeartbeats 8000000 in
set_option maxRecDepth 100000 in
theorem laws_FnBasis.calls (k : Nat) (A0 : Option Addr) (c0 : Nat) (l0 : List Int) (r : Bool) (w : World) (hr0 : Kd.C (Kd.int .u8) w A0 l0.length l0) (hc0 : l0.length ≤ c0) (hr_ : r = true) (h : laws_FnBasis.f k l0 = some r) :
    Calls Try.prog 8 #[.slice A0 l0.length c0] w fun e w' => e = .returned (.bool r) ∧ Below w.heap.size w w' := by
  have HR0 := Aside0.mk hr0
  have HC0 := Aside0.mk hc0
  clear hr0 hc0
  have HB := Aside0.mk (Below.refl w.heap.size w)
  have H : ((laws_big.f l0).bind fun t224 => (if t224 = true then (some true) else ((spec_DrawBasis.f k l0).bind fun bt225 => ((impl_Basis.f k bt225.1 bt225.2).bind fun bt229 => ((spec_Basis.f k bt225.1 bt225.2).bind fun bt233 => (if (bt229.2 != bt233.2) = true then (laws_FnBasis.j0 k l0 bt225.1 bt225.2 bt229.1 bt229.2 true) else (laws_FnBasis.j0 k l0 bt225.1 bt225.2 bt229.1 bt229.2 ((bt229.1.length : Int) != (bt233.1.length : Int))))))))) = some r := h
  clear h
  replace H := Option.bind_eq_some_iff.mp H
  obtain ⟨t224, A20, H⟩ := H
  replace H : (if t224 = true then (some true) else ((spec_DrawBasis.f k l0).bind fun bt225 => ((impl_Basis.f k bt225.1 bt225.2).bind fun bt229 => ((spec_Basis.f k bt225.1 bt225.2).bind fun bt233 => (if (bt229.2 != bt233.2) = true then (laws_FnBasis.j0 k l0 bt225.1 bt225.2 bt229.1 bt229.2 true) else (laws_FnBasis.j0 k l0 bt225.1 bt225.2 bt229.1 bt229.2 ((bt229.1.length : Int) != (bt233.1.length : Int)))))))) = some r := H
  have A2 := Aside0.mk A20
  clear A20
  by_cases c3 : t224 = true
  · subst c3
    have H1 : (some true) = some r := by rw [if_pos rfl] at H; exact H
    clear H
    have H := H1
    clear H1
    obtain rfl := Option.some.inj H
    go_enter Try.func8, Try.ntmps8
    go_wp2_with (first | ((with_reducible refine gate_callee (f := 23) rfl ?_); refine goesL_ (some 21) rfl rfl Try.func23 (by kernel_rfl) rfl #[.slice A0 l0.length c0] rfl (by (try simp only [List.map_toArray, List.map_cons, List.map_nil]); first | done | rfl | (simp only [List.length_drop, List.length_take]; rfl)) ?_; (with_reducible refine (laws_big.calls _ _ l0 true _ ?side1 ?side2 A2.out).mono ?_); (case side1 => repeat (first | exact HR0.out | (with_reducible refine Kd.C_alloc ?_ _) | (with_reducible refine Kd.C_drewN ?_ _) | (with_reducible refine Kd.C_drew ?_))); (case side2 => exact HC0.out); rintro e w' ⟨rfl, ⟨nd, rfl⟩⟩; refine ⟨_, rfl, ?_⟩))
    go_ret
    exact ⟨by first | rfl | (simp [errW_none, errW_some] <;> rfl) | (simp [*, errW_none, errW_some] <;> rfl), by repeat (first | (with_reducible first | exact HB.out | apply below_alloc | apply pw_below_drewN | apply below_drew1) | exact HB.out)⟩
  · replace c3 := Bool.eq_false_iff.mpr c3
    subst c3
    have H1 : ((spec_DrawBasis.f k l0).bind fun bt225 => ((impl_Basis.f k bt225.1 bt225.2).bind fun bt229 => ((spec_Basis.f k bt225.1 bt225.2).bind fun bt233 => (if (bt229.2 != bt233.2) = true then (laws_FnBasis.j0 k l0 bt225.1 bt225.2 bt229.1 bt229.2 true) else (laws_FnBasis.j0 k l0 bt225.1 bt225.2 bt229.1 bt229.2 ((bt229.1.length : Int) != (bt233.1.length : Int))))))) = some r := by rw [if_neg (show ¬ (false = true) by decide)] at H; exact H
    clear H
    have H := H1
    clear H1
    replace H := Option.bind_eq_some_iff.mp H
    obtain ⟨⟨t225, t226⟩, A40, H⟩ := H
    replace H : ((impl_Basis.f k t225 t226).bind fun bt229 => ((spec_Basis.f k t225 t226).bind fun bt233 => (if (bt229.2 != bt233.2) = true then (laws_FnBasis.j0 k l0 t225 t226 bt229.1 bt229.2 true) else (laws_FnBasis.j0 k l0 t225 t226 bt229.1 bt229.2 ((bt229.1.length : Int) != (bt233.1.length : Int)))))) = some r := H
    have A4 := Aside0.mk A40
    clear A40
    replace H := Option.bind_eq_some_iff.mp H
    obtain ⟨⟨t229, t230⟩, A50, H⟩ := H
    replace H : ((spec_Basis.f k t225 t226).bind fun bt233 => (if (t230 != bt233.2) = true then (laws_FnBasis.j0 k l0 t225 t226 t229 t230 true) else (laws_FnBasis.j0 k l0 t225 t226 t229 t230 ((t229.length : Int) != (bt233.1.length : Int))))) = some r := H
    have A5 := Aside0.mk A50
    clear A50
    replace H := Option.bind_eq_some_iff.mp H
    obtain ⟨⟨t233, t234⟩, A60, H⟩ := H
    replace H : (if (t230 != t234) = true then (laws_FnBasis.j0 k l0 t225 t226 t229 t230 true) else (laws_FnBasis.j0 k l0 t225 t226 t229 t230 ((t229.length : Int) != (t233.length : Int)))) = some r := H
    have A6 := Aside0.mk A60
    clear A60
    have HC7 := Aside0.mk H
    clear H
    go_enter Try.func8, Try.ntmps8
    go_upto_region 6 with (first | ((with_reducible refine gate_callee (f := 23) rfl ?_); refine goesL_ (some 21) rfl rfl Try.func23 (by kernel_rfl) rfl #[.slice A0 l0.length c0] rfl (by (try simp only [List.map_toArray, List.map_cons, List.map_nil]); first | done | rfl | (simp only [List.length_drop, List.length_take]; rfl)) ?_; (with_reducible refine (laws_big.calls _ _ l0 false _ ?side1 ?side2 A2.out).mono ?_); (case side1 => repeat (first | exact HR0.out | (with_reducible refine Kd.C_alloc ?_ _) | (with_reducible refine Kd.C_drewN ?_ _) | (with_reducible refine Kd.C_drew ?_))); (case side2 => exact HC0.out); rintro e w' ⟨rfl, ⟨nd, rfl⟩⟩; refine ⟨_, rfl, ?_⟩) | ((with_reducible refine gate_callee (f := 30) rfl ?_); refine goesL_ (some 24) rfl rfl Try.func30 (by kernel_rfl) rfl #[.slice A0 l0.length c0] rfl (by (try simp only [List.map_toArray, List.map_cons, List.map_nil]); first | done | rfl | (simp only [List.length_drop, List.length_take]; rfl)) ?_; (with_reducible refine (spec_DrawBasis.calls k _ _ l0 t225 t226 _ ?side1 ?side2 A4.out).mono ?_); (case side1 => repeat (first | exact HR0.out | (with_reducible refine Kd.C_alloc ?_ _) | (with_reducible refine Kd.C_drewN ?_ _) | (with_reducible refine Kd.C_drew ?_))); (case side2 => exact HC0.out); rintro e w8 ⟨v227, rfl, ho0, hb⟩; refine ⟨_, rfl, ?_⟩; have n0_ := Aside0.mk (Kd.N_lower (Kd.N_mono (ok' := fun k_ => True) (Kd.S_N (Kd.S_bound ho0)) (fun k_ hk_ => trivial)) (below_size (by repeat (first | (with_reducible first | exact HB.out | apply below_alloc | apply pw_below_drewN | apply below_drew1) | exact HB.out)))); have n1_ := Aside0.mk (below_step (by repeat (first | (with_reducible first | exact HB.out | apply below_alloc | apply pw_below_drewN | apply below_drew1) | exact HB.out)) hb); clear HB; have HO228 := n0_; have HB := n1_; clear n0_ n1_; (try clear hb); (try clear hb2); (try clear hk); (try clear hi); (try clear ho0); obtain ⟨Ao9, co9, eo9⟩ := Kd.N_slice HO228.out; subst eo9) | ((with_reducible refine gate_callee (f := 28) rfl ?_); refine goesL_ (some 30) rfl rfl Try.func28 (by kernel_rfl) rfl #[.slice Ao9 t225.length co9, .int .i64 t226] rfl (by (try simp only [List.map_toArray, List.map_cons, List.map_nil]); first | done | rfl | (simp only [List.length_drop, List.length_take]; rfl)) ?_; (with_reducible refine (impl_Basis.calls k _ _ t225 t226 t229 t230 _ ?side1 ?side2 A5.out).mono ?_); (case side1 => repeat (first | exact (Kd.N_reads' HO228.out).2.2 | (with_reducible refine Kd.C_alloc ?_ _) | (with_reducible refine Kd.C_drewN ?_ _) | (with_reducible refine Kd.C_drew ?_))); (case side2 => exact (Kd.N_reads' HO228.out).2.1); rintro e w10 ⟨v231, rfl, ho0, hb⟩; refine ⟨_, rfl, ?_⟩; have n0_ := Aside0.mk (Kd.N_elder' (by (with_reducible repeat (first | apply Kd.N_alloc | apply Kd.N_drewN | apply Kd.N_drew)); first | exact HO228.out | (subst_vars; exact HO228.out)) (Kd.S_base ho0) hb); have n1_ := Aside0.mk (Kd.N_lower (Kd.N_mono (ok' := fun k_ => some k_ ≠ (.slice Ao9 t225.length co9 : Value).ownBlock) (Kd.S_N (Kd.S_bound ho0)) (fun k_ hk_ => (Kd.fresh' (Kd.N_lt (by (with_reducible repeat (first | apply Kd.N_alloc | apply Kd.N_drewN | apply Kd.N_drew)); first | exact HO228.out | (subst_vars; exact HO228.out))) k_ hk_.2.1))) (below_size (by repeat (first | (with_reducible first | exact HB.out | apply below_alloc | apply pw_below_drewN | apply below_drew1) | exact HB.out)))); have n2_ := Aside0.mk (below_step (by repeat (first | (with_reducible first | exact HB.out | apply below_alloc | apply pw_below_drewN | apply below_drew1) | exact HB.out)) hb); clear HO228; clear HB; have HO228 := n0_; have HO232 := n1_; have HB := n2_; clear n0_ n1_ n2_; (try clear hb); (try clear hb2); (try clear hk); (try clear hi); (try clear ho0)) | ((with_reducible refine gate_callee (f := 27) rfl ?_); refine goesL_ (some 36) rfl rfl Try.func27 (by kernel_rfl) rfl #[.slice Ao9 t225.length co9, .int .i64 t226] rfl (by (try simp only [List.map_toArray, List.map_cons, List.map_nil]); first | done | rfl | (simp only [List.length_drop, List.length_take]; rfl)) ?_; (with_reducible refine (spec_Basis.calls k _ _ t225 t226 t233 t234 _ ?side1 ?side2 A6.out).mono ?_); (case side1 => repeat (first | exact (Kd.N_reads' HO228.out).2.2 | (with_reducible refine Kd.C_alloc ?_ _) | (with_reducible refine Kd.C_drewN ?_ _) | (with_reducible refine Kd.C_drew ?_))); (case side2 => exact (Kd.N_reads' HO228.out).2.1); rintro e w11 ⟨v235, rfl, ho0, hb⟩; refine ⟨_, rfl, ?_⟩; have n0_ := Aside0.mk (Kd.N_elder' (by (with_reducible repeat (first | apply Kd.N_alloc | apply Kd.N_drewN | apply Kd.N_drew)); first | exact HO228.out | (subst_vars; exact HO228.out)) (Kd.S_base ho0) hb); have n1_ := Aside0.mk (Kd.N_elder' (by (with_reducible repeat (first | apply Kd.N_alloc | apply Kd.N_drewN | apply Kd.N_drew)); first | exact HO232.out | (subst_vars; exact HO232.out)) (Kd.S_base ho0) hb); have n2_ := Aside0.mk (Kd.N_lower (Kd.N_mono (ok' := fun k_ => some k_ ≠ (.slice Ao9 t225.length co9 : Value).ownBlock ∧ some k_ ≠ (v231 : Value).ownBlock) (Kd.S_N (Kd.S_bound ho0)) (fun k_ hk_ => ⟨(Kd.fresh' (Kd.N_lt (by (with_reducible repeat (first | apply Kd.N_alloc | apply Kd.N_drewN | apply Kd.N_drew)); first | exact HO228.out | (subst_vars; exact HO228.out))) k_ hk_.2.1), (Kd.fresh' (Kd.N_lt (by (with_reducible repeat (first | apply Kd.N_alloc | apply Kd.N_drewN | apply Kd.N_drew)); first | exact HO232.out | (subst_vars; exact HO232.out))) k_ hk_.2.1)⟩)) (below_size (by repeat (first | (with_reducible first | exact HB.out | apply below_alloc | apply pw_below_drewN | apply below_drew1) | exact HB.out)))); have n3_ := Aside0.mk (below_step (by repeat (first | (with_reducible first | exact HB.out | apply below_alloc | apply pw_below_drewN | apply below_drew1) | exact HB.out)) hb); clear HO228; clear HO232; clear HB; have HO228 := n0_; have HO232 := n1_; have HO236 := n2_; have HB := n3_; clear n0_ n1_ n2_ n3_; (try clear hb); (try clear hb2); (try clear hk); (try clear hi); (try clear ho0)))
    (try simp only [Act.put, List.setIfInBounds_toArray, List.set_cons_zero, List.set_cons_succ])
    go_cut [48] (fun v48 wc => ∃ (kq : Nat) (x48_6 : Bool), v48 = .bool x48_6 ∧ Aside0 (laws_FnBasis.j0 kq l0 t225 t226 t229 t230 x48_6 = some r) ∧ Aside0 (kq ≤ k) ∧ Aside0 (Kd.N (Kd.slice 3 (Kd.int .i64)) 23 wc w.heap.size (fun k_ => some k_ ≠ (v231 : Value).ownBlock) (.slice Ao9 t225.length co9) t225) ∧ Aside0 (Kd.N (Kd.slice 3 (Kd.int .i64)) 23 wc w.heap.size (fun k_ => some k_ ≠ ((.slice Ao9 t225.length co9) : Value).ownBlock) v231 t229) ∧ Aside0 (Below w.heap.size w wc))
    case first =>
      have H := HC7.out
      clear HC7
      by_cases c12 : (t230 != t234) = true
      · rw [if_pos c12] at H
        have c12b0 : (t230 != t234) = true := c12
        (try (have c12b1 : decide (t230 = t234) = false := by simpa using c12))
        (try (have c12b2 : (t230 == t234) = false := by simpa using c12))
        (try (have c12b3 : ¬ (t230 = t234) := by simpa using c12))
        clear c12
        (first | rw [c12b0] | (simp only [i64_w, i32_w]; rw [c12b0]) | skip)
        have H' := Aside0.mk H
        clear H
        go_wp2
        go_meet
        case rel => exact ⟨_, (true), (by first | rfl | (simp; done) | (simp [*]; done)), H', ⟨by first | omega | exact Nat.le_refl _⟩, ⟨by (with_reducible repeat (first | apply Kd.N_alloc | apply Kd.N_drewN | apply Kd.N_drew)); first | exact Kd.N_mono HO228.out (fun _ hk => hk.1.2) | (subst_vars; exact Kd.N_mono HO228.out (fun _ hk => hk.1.2))⟩, ⟨by (with_reducible repeat (first | apply Kd.N_alloc | apply Kd.N_drewN | apply Kd.N_drew)); first | exact Kd.N_mono HO232.out (fun _ hk => hk.1) | (subst_vars; exact Kd.N_mono HO232.out (fun _ hk => hk.1))⟩, ⟨by repeat (first | (with_reducible first | exact HB.out | apply below_alloc | apply pw_below_drewN | apply below_drew1) | exact HB.out)⟩⟩
      · rw [if_neg c12] at H
        have c12b0 : (t230 != t234) = false := by simpa using c12
        (try (have c12b1 : decide (t230 = t234) = true := by simpa using c12))
        (try (have c12b2 : (t230 == t234) = true := by simpa using c12))
        clear c12
        (first | rw [c12b0] | (simp only [i64_w, i32_w]; rw [c12b0]) | skip)
        have H' := Aside0.mk H
        clear H
        obtain ⟨Ao13, co13, eo13⟩ := Kd.N_slice HO232.out
        subst eo13
        obtain ⟨Ao14, co14, eo14⟩ := Kd.N_slice HO236.out
        subst eo14
        go_wp2
        go_meet
        case rel => exact ⟨_, (((t229.length : Int) != (t233.length : Int))), (by first | rfl | (simp; done) | (simp [*]; done)), H', ⟨by first | omega | exact Nat.le_refl _⟩, ⟨by (with_reducible repeat (first | apply Kd.N_alloc | apply Kd.N_drewN | apply Kd.N_drew)); first | exact Kd.N_mono HO228.out (fun _ hk => hk.1.2) | (subst_vars; exact Kd.N_mono HO228.out (fun _ hk => hk.1.2))⟩, ⟨by (with_reducible repeat (first | apply Kd.N_alloc | apply Kd.N_drewN | apply Kd.N_drew)); first | exact Kd.N_mono HO232.out (fun _ hk => hk.1) | (subst_vars; exact Kd.N_mono HO232.out (fun _ hk => hk.1))⟩, ⟨by repeat (first | (with_reducible first | exact HB.out | apply below_alloc | apply pw_below_drewN | apply below_drew1) | exact HB.out)⟩⟩
    case rest =>
      clear HC7
      try clear c1
      try clear c2
      try clear p2
      try clear c3
      try clear c8
      try clear c12
      try clear c12b0
      try clear c12b1
      try clear c12b2
      obtain ⟨kq, x48_6, rfl, HA, HJ6, HO_3, HO_5, HB⟩ := hcut
      cases kq with
      | zero => exact absurd HA.out (by simp [laws_FnBasis.j0])
      | succ kj6 =>
        have H := HA.out
        clear HA
        simp only [laws_FnBasis.j0] at H
        by_cases c15 : x48_6 = true
        · subst c15
          have H1 : (some false) = some r := by rw [if_pos rfl] at H; exact H
          clear H
          have H := H1
          clear H1
          exact absurd (Option.some.inj H) (by rw [hr_]; decide)
        · replace c15 := Bool.eq_false_iff.mpr c15
          subst c15
          have H1 : (if t230 = true then (if 0 ≤ t226 then (if (t226 : Int).toNat ≤ 35184372088832 then (laws_FnBasis.l0 kj6 l0 t225 t226 t229 (List.replicate (t226 : Int).toNat 0) 0) else (none)) else (none)) else ((impl_Basis.f kj6 (([(([0, 1] : List Int))] : List (List Int))) 2).bind fun bt243 => (if bt243.2 = true then ((laws_sameRows.f kj6 bt243.1 (([(([1, 1] : List Int))] : List (List Int)))).bind fun t253 => (some t253)) else (some false)))) = some r := by rw [if_neg (show ¬ (false = true) by decide)] at H; exact H
          clear H
          have H := H1
          clear H1
          by_cases c16 : t230 = true
          · subst c16
            have H1 : (if 0 ≤ t226 then (if (t226 : Int).toNat ≤ 35184372088832 then (laws_FnBasis.l0 kj6 l0 t225 t226 t229 (List.replicate (t226 : Int).toNat 0) 0) else (none)) else (none)) = some r := by rw [if_pos rfl] at H; exact H
            clear H
            have H := H1
            clear H1
            by_cases c17 : 0 ≤ t226
            · rw [if_pos c17] at H
              have c17b0 := eq_true c17
              have c17b1 : decide (0 ≤ t226) = true := decide_eq_true c17
              clear c17
              by_cases c18 : (t226 : Int).toNat ≤ 35184372088832
              · rw [if_pos c18] at H
                have c18b0 := eq_true c18
                have c18b1 : decide ((t226 : Int).toNat ≤ 35184372088832) = true := decide_eq_true c18
                clear c18
                obtain ⟨y254, hy254⟩ : ∃ y_ : List Int, y_ = (List.replicate (t226 : Int).toNat 0) := ⟨_, rfl⟩
                replace H : (laws_FnBasis.l0 kj6 l0 t225 t226 t229 y254 0) = some r := by first | (rw [hy254]; with_reducible exact H) | (have H2_ := (Option.bind_some _ _).symm.trans H; rw [hy254]; with_reducible exact H2_) | (have H2_ := (Option.bind_some _ _).symm.trans H; with_reducible exact H2_) | with_reducible exact H | (rw [hy254]; exact H) | exact H
                have Ny254 := Aside0.mk hy254
                clear hy254
                have H' := Aside0.mk H
                clear H
                go_wp2_with (first | ((with_reducible refine gate_dst (N := 65) rfl ?_); (try (refine gate_guard (by rfl) ?_; dsimp only)); refine Kd.R_make (Kd.int .i64) _ 3 rfl (N := 65) rfl 23 _ _ rfl t226 rfl rfl Try.underlying23 (.int .i64 0) 8 info3 rfl (by decide) (by omega) 0 (ok := fun _ => True) (okp := fun _ => True) rfl (fun _ hk => hk) trivial (of_decide_eq_true (by first | (with_reducible assumption) | assumption)) (Nat.le_trans (Nat.mul_le_mul_right _ (of_decide_eq_true (by first | (with_reducible assumption) | assumption) : t226.toNat ≤ 35184372088832)) (by omega)) (Below.refl _ _) (Nat.le_refl _) ?_; intro v255 w19 ho20 hb hg_ hnew_; clear hg_ hnew_; (first | rw [← Ny254.out] at ho20 | (simp only [Int.reduceToNat] at ho20; rw [← Ny254.out] at ho20)); have n0_ := Aside0.mk (Kd.N_elder' (by (with_reducible repeat (first | apply Kd.N_alloc | apply Kd.N_drewN | apply Kd.N_drew)); first | exact HO_3.out | (subst_vars; exact HO_3.out)) (Kd.R_base ho20) hb); have n1_ := Aside0.mk (Kd.N_elder' (by (with_reducible repeat (first | apply Kd.N_alloc | apply Kd.N_drewN | apply Kd.N_drew)); first | exact HO_5.out | (subst_vars; exact HO_5.out)) (Kd.R_base ho20) hb); have n2_ := Aside0.mk (Kd.R_lower ho20 (below_size (by repeat (first | (with_reducible first | exact HB.out | apply below_alloc | apply pw_below_drewN | apply below_drew1) | exact HB.out)))); have n3_ := Aside0.mk (below_step (by repeat (first | (with_reducible first | exact HB.out | apply below_alloc | apply pw_below_drewN | apply below_drew1) | exact HB.out)) hb); clear HO_3; clear HO_5; clear HB; have HO_3 := n0_; have HO_5 := n1_; have HO256 := n2_; have HB := n3_; clear n0_ n1_ n2_ n3_; clear hb ho20))
                (try simp only [Act.put, List.setIfInBounds_toArray, List.set_cons_zero, List.set_cons_succ])
                go_loopg [12] kj6 (fun kq v12 w' => ∃ (x11_2 : List Int) (x12_2 : Int), v12 = .int .i64 x12_2 ∧ Aside0 (laws_FnBasis.l0 kq l0 t225 t226 t229 x11_2 x12_2 = some r) ∧ Aside0 (kq ≤ kj6) ∧ Aside0 (Kd.N (Kd.slice 3 (Kd.int .i64)) 23 w' w.heap.size (fun k_ => some k_ ≠ (v231 : Value).ownBlock ∧ some k_ ≠ (v255 : Value).ownBlock) (.slice Ao9 t225.length co9) t225) ∧ Aside0 (Kd.N (Kd.slice 3 (Kd.int .i64)) 23 w' w.heap.size (fun k_ => some k_ ≠ ((.slice Ao9 t225.length co9) : Value).ownBlock ∧ some k_ ≠ (v255 : Value).ownBlock) v231 t229) ∧ Aside0 (Kd.R (Kd.int .i64) 3 w' w.heap.size (fun _ => True) v255 x11_2) ∧ Aside0 (Below w.heap.size w w'))
                case atStart => exact ⟨(y254), (0), (by first | rfl | (simp; done) | (simp [*]; done)), H', ⟨Nat.le_refl _⟩, ⟨by (with_reducible repeat (first | apply Kd.N_alloc | apply Kd.N_drewN | apply Kd.N_drew)); first | exact HO_3.out | (subst_vars; exact HO_3.out)⟩, ⟨by (with_reducible repeat (first | apply Kd.N_alloc | apply Kd.N_drewN | apply Kd.N_drew)); first | exact HO_5.out | (subst_vars; exact HO_5.out)⟩, ⟨by (with_reducible repeat (first | apply Kd.R_alloc | apply Kd.R_drewN | apply Kd.R_drew)); first | exact HO256.out | (subst_vars; exact HO256.out)⟩, ⟨by repeat (first | (with_reducible first | exact HB.out | apply below_alloc | apply pw_below_drewN | apply below_drew1) | exact HB.out)⟩⟩
                case round =>
                  clear H'
                  try clear c1
                  try clear c2
                  try clear p2
                  try clear c3
                  try clear c8
                  try clear c12
                  try clear c12b0
                  try clear c12b1
                  try clear c12b2
                  try clear c15
                  try clear c16
                  try clear c17
                  try clear c17b0
                  try clear c17b1
                  try clear c18
                  try clear c18b0
                  try clear c18b1
                  try clear p2
                  obtain ⟨x11_2, x12_2, rfl, HA, HK2, HO_3, HO_5, HO_11, HB⟩ := hrel
                  cases gk with
                  | zero => exact absurd HA.out (by simp [laws_FnBasis.l0])
                  | succ k2 =>
                    have H := HA.out
                    clear HA
                    simp only [laws_FnBasis.l0] at H
                    by_cases c21 : x12_2 < (t229.length : Int)
                    · rw [if_pos c21] at H
                      have c21b0 : decide (x12_2 < (t229.length : Int)) = true := decide_eq_true c21
                      clear c21
                      by_cases c22 : 0 ≤ x12_2
                      · rw [if_pos c22] at H
                        have c22b0 : decide (0 ≤ x12_2) = true := decide_eq_true c22
                        clear c22
                        by_cases c23 : ((rd_L1 t229 x12_2).length : Int) = t226
                        · rw [if_pos c23] at H
                          have c23b0 : (((rd_L1 t229 x12_2).length : Int) == t226) = true := beq_iff_eq.mpr c23
                          have c23b1 : (((rd_L1 t229 x12_2).length : Int) != t226) = false := bne_eq_false_iff_eq.mpr c23
                          clear c23
                          have HC24 := Aside0.mk H
                          clear H
                          obtain ⟨Ao25, co25, eo25⟩ := Kd.N_slice HO_5.out
                          subst eo25
                          have p261 : 0 ≤ (x12_2 : Int) := of_decide_eq_true (by first | (with_reducible assumption) | assumption)
                          have q261 : x12_2 < (t229.length : Int) := of_decide_eq_true (by first | (with_reducible assumption) | assumption)
                          obtain ⟨ad261, A261_0, c261_0, e261, hx261_0, hl261_0, hi261_0⟩ := at_L1 (Kd.N_reads' HO_5.out).2.2 x12_2 p261 q261
                          cases e261
                          obtain ⟨ce261, hce261, hMe261, hcc261⟩ := Kd.N_get HO_5.out [] x12_2 p261 (by first | exact q261 | exact of_decide_eq_true (by first | (with_reducible assumption) | assumption) | (have e_ := (Kd.N_reads' HO_5.out).1; omega))
                          obtain ⟨ua261_0, uc261_0, rfl, ul261_0, ge261_0⟩ := Kd.FK_slice_open hMe261
                          have hv261_0 := hcc261 0 _ rfl
                          rw [Nat.add_zero, show ((Kd.slice 3 (Kd.int .i64))).sz = 1 from rfl, Nat.mul_one] at hv261_0
                          replace hv261_0 := Option.some.inj (hv261_0.symm.trans hx261_0)
                          injection hv261_0 with hva_ hvn_ hvc_
                          rw [hva_] at ge261_0
                          rw [hvc_] at ul261_0
                          have HL261_0 := Aside0.mk (show Kd.V (Kd.int .i64) 3 _ w.heap.size _ _ (rd_L1 t229 x12_2) from Kd.V_mk ul261_0 ge261_0)
                          clear hva_ hvn_ hvc_ ge261_0 ul261_0
                          clear hcc261 hce261
                          have HR261_0 := Aside0.mk hi261_0
                          have HC261_0 := Aside0.mk hl261_0
                          clear hi261_0 hl261_0
                          replace p261 := eq_true p261
                          replace q261 := eq_true q261
                          go_upto_block 2 with (fail)
                          go_cut [] (fun wc => ∃ (kq : Nat) (x11_23 : List Int), Aside0 (laws_FnBasis.j3 kq l0 t225 t226 t229 x11_23 x12_2 = some r) ∧ Aside0 (kq ≤ k2) ∧ Aside0 (Kd.N (Kd.slice 3 (Kd.int .i64)) 23 wc w.heap.size (fun k_ => some k_ ≠ ((.slice (some ad261) t229.length co25) : Value).ownBlock ∧ some k_ ≠ (v255 : Value).ownBlock) (.slice Ao9 t225.length co9) t225) ∧ Aside0 (Kd.N (Kd.slice 3 (Kd.int .i64)) 23 wc w.heap.size (fun k_ => some k_ ≠ ((.slice Ao9 t225.length co9) : Value).ownBlock ∧ some k_ ≠ (v255 : Value).ownBlock) (.slice (some ad261) t229.length co25) t229) ∧ Aside0 (Kd.R (Kd.int .i64) 3 wc w.heap.size (fun _ => True) v255 x11_23) ∧ Aside0 (Below w.heap.size w wc))
                          case first =>
                            have H := HC24.out
                            clear HC24
                            have H' := Aside0.mk H
                            clear H
                            go_wp2
                            (try simp only [Act.put, List.setIfInBounds_toArray, List.set_cons_zero, List.set_cons_succ])
                            go_loopg [13] k2 (fun kq v13 w' => ∃ (x11_3 : List Int) (x13_3 : Int), v13 = .int .i64 x13_3 ∧ Aside0 (laws_FnBasis.l1 kq l0 t225 t226 t229 x11_3 x12_2 x13_3 = some r) ∧ Aside0 (kq ≤ k2) ∧ Aside0 (Kd.N (Kd.slice 3 (Kd.int .i64)) 23 w' w.heap.size (fun k_ => some k_ ≠ ((.slice (some ad261) t229.length co25) : Value).ownBlock ∧ some k_ ≠ (v255 : Value).ownBlock) (.slice Ao9 t225.length co9) t225) ∧ Aside0 (Kd.N (Kd.slice 3 (Kd.int .i64)) 23 w' w.heap.size (fun k_ => some k_ ≠ ((.slice Ao9 t225.length co9) : Value).ownBlock ∧ some k_ ≠ (v255 : Value).ownBlock) (.slice (some ad261) t229.length co25) t229) ∧ Aside0 (Kd.R (Kd.int .i64) 3 w' w.heap.size (fun _ => True) v255 x11_3) ∧ Aside0 (Below w.heap.size w w'))
                            case atStart => exact ⟨(x11_2), (0), (by first | rfl | (simp; done) | (simp [*]; done)), H', ⟨Nat.le_refl _⟩, ⟨by (with_reducible repeat (first | apply Kd.N_alloc | apply Kd.N_drewN | apply Kd.N_drew)); first | exact HO_3.out | (subst_vars; exact HO_3.out)⟩, ⟨by (with_reducible repeat (first | apply Kd.N_alloc | apply Kd.N_drewN | apply Kd.N_drew)); first | exact HO_5.out | (subst_vars; exact HO_5.out)⟩, ⟨by (with_reducible repeat (first | apply Kd.R_alloc | apply Kd.R_drewN | apply Kd.R_drew)); first | exact HO_11.out | (subst_vars; exact HO_11.out)⟩, ⟨by repeat (first | (with_reducible first | exact HB.out | apply below_alloc | apply pw_below_drewN | apply below_drew1) | exact HB.out)⟩⟩
                            case round =>
                              clear H'
                              try clear c1
                              try clear c2
                              try clear p2
                              try clear q2
                              try clear hx2
                              try clear c3
                              try clear c8
                              try clear c12
                              try clear c12b0
                              try clear c12b1
                              try clear c12b2
                              try clear c15
                              try clear c16
                              try clear c17
                              try clear c17b0
                              try clear c17b1
                              try clear c18
                              try clear c18b0
                              try clear c18b1
                              try clear c21
                              try clear c21b0
                              try clear c22
                              try clear c22b0
                              try clear c23
                              try clear c23b0
                              try clear c23b1
                              try clear hx261_0
                              try clear p2
                              try clear p261
                              try clear q261
                              obtain ⟨x11_3, x13_3, rfl, HA, HK3, HO_3, HO_5, HO_11, HB⟩ := hrel
                              cases gk with
                              | zero => exact absurd HA.out (by simp [laws_FnBasis.l1])
                              | succ k3 =>
                                have H := HA.out
                                clear HA
                                simp only [laws_FnBasis.l1] at H
                                by_cases c26 : x13_3 < t226
                                · rw [if_pos c26] at H
                                  have c26b0 : decide (x13_3 < t226) = true := decide_eq_true c26
                                  clear c26
                                  (first | rw [c26b0] | (simp only [i64_w, i32_w]; rw [c26b0]) | skip)
                                  replace H := Option.bind_eq_some_iff.mp H
                                  obtain ⟨t262, A270, H⟩ := H
                                  replace H : (if (Int.tmod t262 2) = 0 then (if 0 ≤ x13_3 then (if x13_3 < (x11_3.length : Int) then (if 0 ≤ x12_2 then (if x12_2 < (t229.length : Int) then (if x13_3 < ((rd_L1 t229 x12_2).length : Int) then (laws_FnBasis.l1 k3 l0 t225 t226 t229 (x11_3.set (x13_3 : Int).toNat (Go.bits .xor .i64 (rd x11_3 x13_3) (rd (rd_L1 t229 x12_2) x13_3))) x12_2 (wrap64 (x13_3 + 1))) else (none)) else (none)) else (none)) else (none)) else (none)) else (laws_FnBasis.j3 k3 l0 t225 t226 t229 x11_3 x12_2)) = some r := H
                                  have A27 := Aside0.mk A270
                                  clear A270
                                  by_cases c28 : (Int.tmod t262 2) = 0
                                  · rw [if_pos c28] at H
                                    have c28b0 : ((Int.tmod t262 2) == 0) = true := beq_iff_eq.mpr c28
                                    have c28b1 : ((Int.tmod t262 2) != 0) = false := bne_eq_false_iff_eq.mpr c28
                                    clear c28
                                    by_cases c29 : 0 ≤ x13_3
                                    · rw [if_pos c29] at H
                                      have c29b0 : decide (0 ≤ x13_3) = true := decide_eq_true c29
                                      clear c29
                                      by_cases c30 : x13_3 < (x11_3.length : Int)
                                      · rw [if_pos c30] at H
                                        have c30b0 : decide (x13_3 < (x11_3.length : Int)) = true := decide_eq_true c30
                                        clear c30
                                        by_cases c31 : 0 ≤ x12_2
                                        · rw [if_pos c31] at H
                                          have c31b0 : decide (0 ≤ x12_2) = true := decide_eq_true c31
                                          clear c31
                                          by_cases c32 : x12_2 < (t229.length : Int)
                                          · rw [if_pos c32] at H
                                            have c32b0 : decide (x12_2 < (t229.length : Int)) = true := decide_eq_true c32
                                            clear c32
                                            by_cases c33 : x13_3 < ((rd_L1 t229 x12_2).length : Int)
                                            · rw [if_pos c33] at H
                                              have c33b0 : decide (x13_3 < ((rd_L1 t229 x12_2).length : Int)) = true := decide_eq_true c33
                                              clear c33
                                              obtain ⟨y266, hy266⟩ : ∃ y_ : List Int, y_ = (x11_3.set (x13_3 : Int).toNat (Go.bits .xor .i64 (rd x11_3 x13_3) (rd (rd_L1 t229 x12_2) x13_3))) := ⟨_, rfl⟩
                                              replace H : (laws_FnBasis.l1 k3 l0 t225 t226 t229 y266 x12_2 (wrap64 (x13_3 + 1))) = some r := by first | (rw [hy266]; with_reducible exact H) | (have H2_ := (Option.bind_some _ _).symm.trans H; rw [hy266]; with_reducible exact H2_) | (have H2_ := (Option.bind_some _ _).symm.trans H; with_reducible exact H2_) | with_reducible exact H | (rw [hy266]; exact H) | exact H
                                              have Ny266 := Aside0.mk hy266
                                              clear hy266
                                              have H' := Aside0.mk H
                                              clear H
                                              try go_wp2_with (first | (go_at_call 25; (with_reducible refine (laws_at.calls _ _ l0 x12_2 t262 _ ?side1 ?side2 A27.out).mono ?_); (case side1 => repeat (first | exact (Kd.C_below HR0.out HB.out) | (with_reducible refine Kd.C_alloc ?_ _) | (with_reducible refine Kd.C_drewN ?_ _) | (with_reducible refine Kd.C_drew ?_))); (case side2 => exact HC0.out); rintro e w' ⟨rfl, ⟨nd, rfl⟩⟩; (try (rw [drewN_self wr]; generalize hq_ : World.drewN wr _ = wr; have n0_ : Aside0 (Kd.R (Kd.int .i64) 3 wr w.heap.size (fun _ => True) v255 x11_3) := ⟨by rw [← hq_]; exact (by (with_reducible repeat (first | apply Kd.R_alloc | apply Kd.R_drewN | apply Kd.R_drew)); first | exact HO_11.out | (subst_vars; exact HO_11.out))⟩; have n1_ : Aside0 (Kd.N (Kd.slice 3 (Kd.int .i64)) 23 wr w.heap.size (fun k_ => some k_ ≠ (v255 : Value).ownBlock ∧ some k_ ≠ (.slice (some ad261) t229.length co25 : Value).ownBlock) (.slice Ao9 t225.length co9) t225) := ⟨by rw [← hq_]; exact (by (with_reducible repeat (first | apply Kd.N_alloc | apply Kd.N_drewN | apply Kd.N_drew)); first | exact Kd.N_mono HO_3.out (fun _ hk => ⟨hk.2, hk.1⟩) | (subst_vars; exact Kd.N_mono HO_3.out (fun _ hk => ⟨hk.2, hk.1⟩)))⟩; have n2_ : Aside0 (Kd.N (Kd.slice 3 (Kd.int .i64)) 23 wr w.heap.size (fun k_ => some k_ ≠ (v255 : Value).ownBlock ∧ some k_ ≠ (.slice Ao9 t225.length co9 : Value).ownBlock) (.slice (some ad261) t229.length co25) t229) := ⟨by rw [← hq_]; exact (by (with_reducible repeat (first | apply Kd.N_alloc | apply Kd.N_drewN | apply Kd.N_drew)); first | exact Kd.N_mono HO_5.out (fun _ hk => ⟨hk.2, hk.1⟩) | (subst_vars; exact Kd.N_mono HO_5.out (fun _ hk => ⟨hk.2, hk.1⟩)))⟩; have n3_ : Aside0 (Below w.heap.size w wr) := ⟨by rw [← hq_]; exact (by repeat (first | (with_reducible first | exact HB.out | apply below_alloc | apply pw_below_drewN | apply below_drew1) | exact HB.out))⟩; clear HO_11 HO_3 HO_5 HB hq_; have HO_11 := n0_; have HO_3 := n1_; have HO_5 := n2_; have HB := n3_; clear n0_ n1_ n2_ n3_))))
                                              have n0_ := Aside0.mk (Kd.N_drew HO_3.out)
                                              have n1_ := Aside0.mk (Kd.N_drew HO_5.out)
                                              have n2_ := Aside0.mk (Kd.R_drew HO_11.out)
                                              have n3_ := Aside0.mk (below_drew1 HB.out)
                                              clear HO_3
                                              clear HO_5
                                              clear HO_11
                                              clear HB
                                              have HO_3 := n0_
                                              have HO_5 := n1_
                                              have HO_11 := n2_
                                              have HB := n3_
                                              clear n0_ n1_ n2_ n3_
                                              obtain ⟨Ao36, co36, eo36⟩ := Kd.R_slice HO_11.out
                                              (first | subst eo36 | (injection eo36 with f1_ f2_ f3_; have f4_ := f1_.symm; have f5_ := f3_.symm; clear f1_ f2_ f3_; subst f4_; subst f5_))
                                              have p263 : 0 ≤ (x13_3 : Int) := of_decide_eq_true (by first | (with_reducible assumption) | assumption)
                                              have q263 : x13_3 < (x11_3.length : Int) := of_decide_eq_true (by first | (with_reducible assumption) | assumption)
                                              obtain ⟨ad263, e263, hx263_0⟩ := Kd.at_int (Kd.R_reads' HO_11.out).2.2 x13_3 p263 q263
                                              cases e263
                                              replace p263 := eq_true p263
                                              replace q263 := eq_true q263
                                              have p264 : 0 ≤ (x12_2 : Int) := of_decide_eq_true (by first | (with_reducible assumption) | assumption)
                                              have q264 : x12_2 < (t229.length : Int) := of_decide_eq_true (by first | (with_reducible assumption) | assumption)
                                              obtain ⟨ad264, A264_0, c264_0, e264, hx264_0, hl264_0, hi264_0⟩ := at_L1 (Kd.N_reads' HO_5.out).2.2 x12_2 p264 q264
                                              obtain rfl : ad261 = ad264 := (by injection e264)
                                              obtain ⟨ce264, hce264, hMe264, hcc264⟩ := Kd.N_get HO_5.out [] x12_2 p264 (by first | exact q264 | exact of_decide_eq_true (by first | (with_reducible assumption) | assumption) | (have e_ := (Kd.N_reads' HO_5.out).1; omega))
                                              obtain ⟨ua264_0, uc264_0, rfl, ul264_0, ge264_0⟩ := Kd.FK_slice_open hMe264
                                              have hv264_0 := hcc264 0 _ rfl
                                              rw [Nat.add_zero, show ((Kd.slice 3 (Kd.int .i64))).sz = 1 from rfl, Nat.mul_one] at hv264_0
                                              replace hv264_0 := Option.some.inj (hv264_0.symm.trans hx264_0)
                                              injection hv264_0 with hva_ hvn_ hvc_
                                              rw [hva_] at ge264_0
                                              rw [hvc_] at ul264_0
                                              have HL264_0 := Aside0.mk (show Kd.V (Kd.int .i64) 3 _ w.heap.size _ _ (rd_L1 t229 x12_2) from Kd.V_mk ul264_0 ge264_0)
                                              clear hva_ hvn_ hvc_ ge264_0 ul264_0
                                              clear hcc264 hce264
                                              have HR264_0 := Aside0.mk hi264_0
                                              have HC264_0 := Aside0.mk hl264_0
                                              clear hi264_0 hl264_0
                                              replace p264 := eq_true p264
                                              replace q264 := eq_true q264
                                              have p265 : 0 ≤ (x13_3 : Int) := of_decide_eq_true (by first | (with_reducible assumption) | assumption)
                                              have q265 : x13_3 < ((rd_L1 t229 x12_2).length : Int) := of_decide_eq_true (by first | (with_reducible assumption) | assumption)
                                              obtain ⟨ad265, e265, hx265_0⟩ := Kd.at_int (by repeat (first | (with_reducible exact HR264_0.out) | (with_reducible refine Kd.C_alloc ?_ _) | (with_reducible refine Kd.C_drewN ?_ _) | (with_reducible refine Kd.C_drew ?_) | exact HR264_0.out)) x13_3 p265 q265
                                              cases e265
                                              replace p265 := eq_true p265
                                              replace q265 := eq_true q265
                                              have p34 : 0 ≤ (x13_3 : Int) := of_decide_eq_true (by first | (with_reducible assumption) | assumption)
                                              have q34 : (x13_3 : Int) < ((x11_3.length : Int) : Int) := of_decide_eq_true (by first | (with_reducible assumption) | assumption)
                                              obtain ⟨go34, co34, eo34, gb34, gl34, cl34, HG34⟩ := Kd.R_form HO_11.out (by omega)
                                              (first | cases eo34 | (injection eo34 with ea_ en_ ec_; (first | subst ea_ | (injection ea_ with ea_; subst ea_)); subst ec_; clear en_))
                                              have GB34 := Aside0.mk gb34
                                              have GG34 := Aside0.mk HG34
                                              clear gb34 gl34 HG34
                                              (first | simp only [add_plain] at hx263_0 | skip)
                                              obtain ⟨hx34_0, hf34_0⟩ := Kd.R_celln 0 HO_11.out (x13_3 : Int) p34 q34
                                              replace p34 := eq_true p34
                                              replace q34 := eq_true q34
                                              have HP37 := Kd.R_putn HO_11.out (x13_3 : Int) (Go.bits .xor .i64 (rd x11_3 x13_3) (rd (rd_L1 t229 x12_2) x13_3))
                                              rw [← Ny266.out] at HP37
                                              have HQ37 := Aside0.mk HP37
                                              clear HP37
                                              refine start_ (n := 16) (S := fun w' => w'.cell? ⟨go34, (x13_3).toNat, none⟩ = some (.int .i64 (rd x11_3 x13_3)) ∧ w'.cell? (ad261.add (x12_2).toNat) = some (.slice (some ad265) (rd_L1 t229 x12_2).length c264_0) ∧ w'.cell? (ad265.add (x13_3).toNat) = some (.int .i64 (rd (rd_L1 t229 x12_2) x13_3))) (ds := [15]) #[false, false, false, false, false, false, false, false, false, false, false, false, false, false, false, false] (by kernel_rfl) rfl rfl ⟨hx263_0, hx264_0, hx265_0⟩ (fun hHeld => ?_); refine with_tabW laws_FnBasis.tab20 laws_FnBasis.bits20 (fun HT_ HW_ => ?_)
                                              generalize wr.drew = w35 at HO_3 HO_5 HO_11 HB GG34 HL264_0 HQ37 HR264_0 hf34_0 hx263_0 hx264_0 hx265_0 hx34_0 hHeld ⊢
                                              refine pure_ (i := 0) (N := some 91) (v := ?_) (a' := ?_) #[true, false, false, false, false, false, false, false, false, false, false, false, false, false, false, false] rfl rfl (any_of HT_.out (by kernel_rfl)) (fun _ _ _ h => h) (Or.inl ⟨by rfl, ?_⟩) ?_ ?_
                                              rotate_left
                                              · intro w'
                                                go_simp
                                                with_reducible rfl
                                              rotate_left
                                              · simp only [Act.put, List.setIfInBounds_toArray, List.set_cons_zero, List.set_cons_succ, i64_w, i32_w]
                                                rfl
                                              refine pure_ (i := 1) (N := some 92) (v := ?_) (a' := ?_) #[true, true, false, false, false, false, false, false, false, false, false, false, false, false, false, false] rfl rfl (any_of HT_.out (by kernel_rfl)) (fun _ _ _ h => h) (Or.inl ⟨by rfl, ?_⟩) ?_ ?_
                                              rotate_left
                                              · intro w'
                                                go_simp
                                                with_reducible rfl
                                              rotate_left
                                              · simp only [Act.put, List.setIfInBounds_toArray, List.set_cons_zero, List.set_cons_succ, i64_w, i32_w]
                                                rfl
                                              refine pure_ (i := 2) (N := some 93) (v := ?_) (a' := ?_) #[true, true, true, false, false, false, false, false, false, false, false, false, false, false, false, false] rfl rfl (any_of HT_.out (by kernel_rfl)) (fun _ _ _ h => h) (Or.inl ⟨by rfl, ?_⟩) ?_ ?_
                                              rotate_left
                                              · intro w'
                                                go_simp
                                                with_reducible rfl
                                              rotate_left
                                              · simp only [Act.put, List.setIfInBounds_toArray, List.set_cons_zero, List.set_cons_succ, i64_w, i32_w]
                                                rfl
                                              refine pure_ (i := 3) (N := some 94) (v := ?_) (a' := ?_) #[true, true, true, true, false, false, false, false, false, false, false, false, false, false, false, false] rfl rfl (any_of HT_.out (by kernel_rfl)) (fun _ _ _ h => h) (Or.inl ⟨by rfl, ?_⟩) ?_ ?_
                                              rotate_left
                                              · intro w'
                                                go_simp
                                                with_reducible rfl
                                              rotate_left
                                              · simp only [Act.put, List.setIfInBounds_toArray, List.set_cons_zero, List.set_cons_succ, i64_w, i32_w]
                                                rfl
                                              refine pure_ (i := 4) (N := some 95) (v := ?_) (a' := ?_) #[true, true, true, true, true, false, false, false, false, false, false, false, false, false, false, false] rfl rfl (any_of HT_.out (by kernel_rfl)) (fun _ _ _ h => h) (Or.inl ⟨by rfl, ?_⟩) ?_ ?_
                                              rotate_left
                                              · intro w'
                                                go_simp
                                                with_reducible rfl
                                              rotate_left
                                              · simp only [Act.put, List.setIfInBounds_toArray, List.set_cons_zero, List.set_cons_succ, i64_w, i32_w]
                                                rfl
                                              refine pure_ (i := 6) (N := some 97) (v := ?_) (a' := ?_) #[true, true, true, true, true, false, true, false, false, false, false, false, false, false, false, false] rfl rfl (any_of HT_.out (by kernel_rfl)) (fun _ _ _ h => h) (Or.inl ⟨by rfl, ?_⟩) ?_ ?_
                                              rotate_left
                                              · intro w'
                                                go_simp
                                                with_reducible rfl
                                              rotate_left
                                              · simp only [Act.put, List.setIfInBounds_toArray, List.set_cons_zero, List.set_cons_succ, i64_w, i32_w]
                                                rfl
                                              refine pure_ (i := 7) (N := some 98) (v := ?_) (a' := ?_) #[true, true, true, true, true, false, true, true, false, false, false, false, false, false, false, false] rfl rfl (any_of HT_.out (by kernel_rfl)) (fun _ _ _ h => h) (Or.inl ⟨by rfl, ?_⟩) ?_ ?_
                                              rotate_left
                                              · intro w'
                                                go_simp
                                                with_reducible rfl
                                              rotate_left
                                              · simp only [Act.put, List.setIfInBounds_toArray, List.set_cons_zero, List.set_cons_succ, i64_w, i32_w]
                                                rfl
                                              refine pure_ (i := 8) (N := some 99) (v := ?_) (a' := ?_) #[true, true, true, true, true, false, true, true, true, false, false, false, false, false, false, false] rfl rfl (any_of HT_.out (by kernel_rfl)) (fun _ _ _ h => h) (Or.inl ⟨by rfl, ?_⟩) ?_ ?_
                                              rotate_left
                                              · intro w'
                                                go_simp
                                                with_reducible rfl
                                              rotate_left
                                              · simp only [Act.put, List.setIfInBounds_toArray, List.set_cons_zero, List.set_cons_succ, i64_w, i32_w]
                                                rfl
                                              refine pure_ (i := 10) (N := some 101) (v := ?_) (a' := ?_) #[true, true, true, true, true, false, true, true, true, false, true, false, false, false, false, false] rfl rfl (any_of HT_.out (by kernel_rfl)) (fun _ _ _ h => h) (Or.inl ⟨by rfl, ?_⟩) ?_ ?_
                                              rotate_left
                                              · intro w'
                                                go_simp
                                                with_reducible rfl
                                              rotate_left
                                              · simp only [Act.put, List.setIfInBounds_toArray, List.set_cons_zero, List.set_cons_succ, i64_w, i32_w]
                                                rfl
                                              refine take_ (i := 5) (N := some 96) (v := ?_) (a' := ?_) #[true, true, true, true, true, true, true, true, true, false, true, false, false, false, false, false] rfl rfl (take_ofW HT_.out HW_.out (by kernel_rfl)) (fun _ _ _ h => h) (Or.inl ⟨by rfl, ?_⟩) hHeld ?_ ?_
                                              rotate_left
                                              · rintro w' ⟨s0, s1, s2⟩
                                                go_simp
                                                with_reducible rfl
                                              rotate_left
                                              · simp only [Act.put, List.setIfInBounds_toArray, List.set_cons_zero, List.set_cons_succ, i64_w, i32_w]
                                                rfl
                                              refine take_ (i := 9) (N := some 100) (v := ?_) (a' := ?_) #[true, true, true, true, true, true, true, true, true, true, true, false, false, false, false, false] rfl rfl (take_ofW HT_.out HW_.out (by kernel_rfl)) (fun _ _ _ h => h) (Or.inl ⟨by rfl, ?_⟩) hHeld ?_ ?_
                                              rotate_left
                                              · rintro w' ⟨s0, s1, s2⟩
                                                go_simp
                                                with_reducible rfl
                                              rotate_left
                                              · simp only [Act.put, List.setIfInBounds_toArray, List.set_cons_zero, List.set_cons_succ, i64_w, i32_w]
                                                rfl
                                              refine pure_ (i := 11) (N := some 102) (v := ?_) (a' := ?_) #[true, true, true, true, true, true, true, true, true, true, true, true, false, false, false, false] rfl rfl (any_of HT_.out (by kernel_rfl)) (fun _ _ _ h => h) (Or.inl ⟨by rfl, ?_⟩) ?_ ?_
                                              rotate_left
                                              · intro w'
                                                go_simp
                                                with_reducible rfl
                                              rotate_left
                                              · simp only [Act.put, List.setIfInBounds_toArray, List.set_cons_zero, List.set_cons_succ, i64_w, i32_w]
                                                rfl
                                              refine take_ (i := 12) (N := some 103) (v := ?_) (a' := ?_) #[true, true, true, true, true, true, true, true, true, true, true, true, true, false, false, false] rfl rfl (take_ofW HT_.out HW_.out (by kernel_rfl)) (fun _ _ _ h => h) (Or.inl ⟨by rfl, ?_⟩) hHeld ?_ ?_
                                              rotate_left
                                              · rintro w' ⟨s0, s1, s2⟩
                                                go_simp
                                                with_reducible rfl
                                              rotate_left
                                              · simp only [Act.put, List.setIfInBounds_toArray, List.set_cons_zero, List.set_cons_succ, i64_w, i32_w]
                                                rfl
                                              refine pure_ (i := 13) (N := some 104) (v := ?_) (a' := ?_) #[true, true, true, true, true, true, true, true, true, true, true, true, true, true, false, false] rfl rfl (any_of HT_.out (by kernel_rfl)) (fun _ _ _ h => h) (Or.inl ⟨by rfl, ?_⟩) ?_ ?_
                                              rotate_left
                                              · intro w'
                                                go_simp
                                                with_reducible rfl
                                              rotate_left
                                              · simp only [Act.put, List.setIfInBounds_toArray, List.set_cons_zero, List.set_cons_succ, i64_w, i32_w]
                                                rfl
                                              refine pure_ (i := 14) (N := some 105) (v := ?_) (a' := ?_) #[true, true, true, true, true, true, true, true, true, true, true, true, true, true, true, false] rfl rfl (any_of HT_.out (by kernel_rfl)) (fun _ _ _ h => h) (Or.inl ⟨by rfl, ?_⟩) ?_ ?_
                                              rotate_left
                                              · intro w'
                                                go_simp
                                                with_reducible rfl
                                              rotate_left
                                              · simp only [Act.put, List.setIfInBounds_toArray, List.set_cons_zero, List.set_cons_succ, i64_w, i32_w]
                                                rfl
                                              refine last_ (i := 15) (N := none) #[true, true, true, true, true, true, true, true, true, true, true, true, true, true, true, true] rfl rfl (one_of HT_.out (by kernel_rfl)) (by decide) (fun K hK => ?_)
                                              refine skip_ (w1 := ?_) (by rfl) rfl ?_ ?_
                                              rotate_left
                                              · go_simp
                                                rfl
                                              refine hK.out _ _ ?_
                                              clear hK K
                                              refine done_ (done_of HT_.out (by kernel_rfl)) ?_
                                              try go_wp2
                                              go_roundg k3
                                              case measure => have := HJ6.out; have := HK2.out; have := HK3.out; omega
                                              case rel => exact ⟨(y266), (wrap64 (x13_3 + 1)), (by first | rfl | (simp; done) | (simp [*]; done)), H', ⟨by have := HJ6.out; have := HK2.out; have := HK3.out; omega⟩, ⟨by (with_reducible repeat (first | apply Kd.N_alloc | apply Kd.N_drewN | apply Kd.N_drew)); first | exact Kd.N_mono (Kd.N_far (p := ⟨go34, (x13_3 : Int).toNat, none⟩) (Kd.N_mono HO_3.out (fun k_ hk => (⟨hk, fun e_ => hk.1 (by rw [e_]; rfl)⟩ : _ ∧ k_ ≠ go34))) (fun _ hk => hk.2) (.int .i64 (Go.bits .xor .i64 (rd x11_3 x13_3) (rd (rd_L1 t229 x12_2) x13_3)))) (fun _ hk => ⟨hk.1.2, hk.1.1⟩) | (subst_vars; exact Kd.N_mono (Kd.N_far (p := ⟨go34, (x13_3 : Int).toNat, none⟩) (Kd.N_mono HO_3.out (fun k_ hk => (⟨hk, fun e_ => hk.1 (by rw [e_]; rfl)⟩ : _ ∧ k_ ≠ go34))) (fun _ hk => hk.2) (.int .i64 (Go.bits .xor .i64 (rd x11_3 x13_3) (rd (rd_L1 t229 x12_2) x13_3)))) (fun _ hk => ⟨hk.1.2, hk.1.1⟩))⟩, ⟨by (with_reducible repeat (first | apply Kd.N_alloc | apply Kd.N_drewN | apply Kd.N_drew)); first | exact Kd.N_mono (Kd.N_far (p := ⟨go34, (x13_3 : Int).toNat, none⟩) (Kd.N_mono HO_5.out (fun k_ hk => (⟨hk, fun e_ => hk.1 (by rw [e_]; rfl)⟩ : _ ∧ k_ ≠ go34))) (fun _ hk => hk.2) (.int .i64 (Go.bits .xor .i64 (rd x11_3 x13_3) (rd (rd_L1 t229 x12_2) x13_3)))) (fun _ hk => ⟨hk.1.2, hk.1.1⟩) | (subst_vars; exact Kd.N_mono (Kd.N_far (p := ⟨go34, (x13_3 : Int).toNat, none⟩) (Kd.N_mono HO_5.out (fun k_ hk => (⟨hk, fun e_ => hk.1 (by rw [e_]; rfl)⟩ : _ ∧ k_ ≠ go34))) (fun _ hk => hk.2) (.int .i64 (Go.bits .xor .i64 (rd x11_3 x13_3) (rd (rd_L1 t229 x12_2) x13_3)))) (fun _ hk => ⟨hk.1.2, hk.1.1⟩))⟩, ⟨by (with_reducible repeat (first | apply Kd.R_alloc | apply Kd.R_drewN | apply Kd.R_drew)); first | exact HQ37.out | (subst_vars; exact HQ37.out)⟩, ⟨by repeat (first | (with_reducible first | exact HB.out | apply below_alloc | apply pw_below_drewN | apply below_drew1 | refine below_set ?_ GB34.out) | exact HB.out)⟩⟩
                                            · rw [if_neg c33] at H
                                              exact absurd H (by simp)
                                          · rw [if_neg c32] at H
                                            exact absurd H (by simp)
                                        · rw [if_neg c31] at H
                                          exact absurd H (by simp)
                                      · rw [if_neg c30] at H
                                        exact absurd H (by simp)
                                    · rw [if_neg c29] at H
                                      exact absurd H (by simp)
                                  · rw [if_neg c28] at H
                                    have c28b0 : ((Int.tmod t262 2) == 0) = false := beq_eq_false_iff_ne.mpr c28
                                    have c28b1 : ((Int.tmod t262 2) != 0) = true := bne_iff_ne.mpr c28
                                    have H' := Aside0.mk H
                                    clear H
                                    go_wp2_with (first | (go_at_call 25; (with_reducible refine (laws_at.calls _ _ l0 x12_2 t262 _ ?side1 ?side2 A27.out).mono ?_); (case side1 => repeat (first | exact (Kd.C_below HR0.out HB.out) | (with_reducible refine Kd.C_alloc ?_ _) | (with_reducible refine Kd.C_drewN ?_ _) | (with_reducible refine Kd.C_drew ?_))); (case side2 => exact HC0.out); rintro e w' ⟨rfl, ⟨nd, rfl⟩⟩))
                                    go_meet
                                    case rel => exact ⟨_, (x11_3), H', ⟨by have := HJ6.out; have := HK2.out; have := HK3.out; first | omega | exact Nat.le_refl _⟩, ⟨by (with_reducible repeat (first | apply Kd.N_alloc | apply Kd.N_drewN | apply Kd.N_drew)); first | exact HO_3.out | (subst_vars; exact HO_3.out)⟩, ⟨by (with_reducible repeat (first | apply Kd.N_alloc | apply Kd.N_drewN | apply Kd.N_drew)); first | exact HO_5.out | (subst_vars; exact HO_5.out)⟩, ⟨by (with_reducible repeat (first | apply Kd.R_alloc | apply Kd.R_drewN | apply Kd.R_drew)); first | exact HO_11.out | (subst_vars; exact HO_11.out)⟩, ⟨by repeat (first | (with_reducible first | exact HB.out | apply below_alloc | apply pw_below_drewN | apply below_drew1) | exact HB.out)⟩⟩
                                · rw [if_neg c26] at H
                                  have c26b0 : decide (x13_3 < t226) = false := decide_eq_false c26
                                  clear c26
                                  (first | rw [c26b0] | (simp only [i64_w, i32_w]; rw [c26b0]) | skip)
                                  have H' := Aside0.mk H
                                  clear H
                                  go_wp2
                                  go_meet
                                  case rel => exact ⟨_, (x11_3), H', ⟨by have := HJ6.out; have := HK2.out; have := HK3.out; first | omega | exact Nat.le_refl _⟩, ⟨by (with_reducible repeat (first | apply Kd.N_alloc | apply Kd.N_drewN | apply Kd.N_drew)); first | exact HO_3.out | (subst_vars; exact HO_3.out)⟩, ⟨by (with_reducible repeat (first | apply Kd.N_alloc | apply Kd.N_drewN | apply Kd.N_drew)); first | exact HO_5.out | (subst_vars; exact HO_5.out)⟩, ⟨by (with_reducible repeat (first | apply Kd.R_alloc | apply Kd.R_drewN | apply Kd.R_drew)); first | exact HO_11.out | (subst_vars; exact HO_11.out)⟩, ⟨by repeat (first | (with_reducible first | exact HB.out | apply below_alloc | apply pw_below_drewN | apply below_drew1) | exact HB.out)⟩⟩
                          case rest =>
                            clear HC24
                            try clear c1
                            try clear c2
                            try clear p2
                            try clear q2
                            try clear hx2
                            try clear c3
                            try clear p3
                            try clear q3
                            try clear hx3
                            try clear hf3
                            try clear p6
                            try clear c8
                            try clear c12
                            try clear c12b0
                            try clear c12b1
                            try clear c12b2
                            try clear c15
                            try clear c16
                            try clear c17
                            try clear c17b0
                            try clear c17b1
                            try clear c18
                            try clear c18b0
                            try clear c18b1
                            try clear c21
                            try clear c21b0
                            try clear c22
                            try clear c22b0
                            try clear c23
                            try clear c23b0
                            try clear c23b1
                            try clear c26
                            try clear c26b0
                            try clear p26
                            try clear q26
                            try clear hx26
                            try clear c27
                            try clear c28
                            try clear c28b0
                            try clear c28b1
                            try clear c29
                            try clear c29b0
                            try clear c30
                            try clear c30b0
                            try clear c31
                            try clear c31b0
                            try clear c32
                            try clear c32b0
                            try clear c33
                            try clear c33b0
                            try clear p34
                            try clear q34
                            try clear hx34
                            try clear hf34
                            try clear hx261_0
                            try clear hx263_0
                            try clear hx264_0
                            try clear hx265_0
                            try clear hx34_0
                            try clear p2
                            try clear p261
                            try clear p263
                            try clear p264
                            try clear p265
                            try clear p34
                            try clear q2
                            try clear q261
                            try clear q263
                            try clear q264
                            try clear q265
                            try clear q34
                            obtain ⟨kq, x11_23, HA, HJ23, HO_3, HO_5, HO_11, HB⟩ := hcut
                            cases kq with
                            | zero => exact absurd HA.out (by simp [laws_FnBasis.j3])
                            | succ kj23 =>
                              have H := HA.out
                              clear HA
                              simp only [laws_FnBasis.j3] at H
                              have H' := Aside0.mk H
                              clear H
                              go_wp2
                              (try simp only [Act.put, List.setIfInBounds_toArray, List.set_cons_zero, List.set_cons_succ])
                              go_loopg [14, 15] kj23 (fun kq v14 v15 w' => ∃ (x14_4 : Bool) (x15_4 : Int), v14 = .bool x14_4 ∧ v15 = .int .i64 x15_4 ∧ Aside0 (laws_FnBasis.l2 kq l0 t225 t226 t229 x11_23 x12_2 x14_4 x15_4 = some r) ∧ Aside0 (kq ≤ kj23) ∧ Aside0 (Kd.N (Kd.slice 3 (Kd.int .i64)) 23 w' w.heap.size (fun k_ => some k_ ≠ ((.slice (some ad261) t229.length co25) : Value).ownBlock ∧ some k_ ≠ (v255 : Value).ownBlock) (.slice Ao9 t225.length co9) t225) ∧ Aside0 (Kd.N (Kd.slice 3 (Kd.int .i64)) 23 w' w.heap.size (fun k_ => some k_ ≠ ((.slice Ao9 t225.length co9) : Value).ownBlock ∧ some k_ ≠ (v255 : Value).ownBlock) (.slice (some ad261) t229.length co25) t229) ∧ Aside0 (Kd.R (Kd.int .i64) 3 w' w.heap.size (fun _ => True) v255 x11_23) ∧ Aside0 (Below w.heap.size w w'))
                              case atStart => exact ⟨(false), (0), (by first | rfl | (simp; done) | (simp [*]; done)), (by first | rfl | (simp; done) | (simp [*]; done)), H', ⟨Nat.le_refl _⟩, ⟨by (with_reducible repeat (first | apply Kd.N_alloc | apply Kd.N_drewN | apply Kd.N_drew)); first | exact HO_3.out | (subst_vars; exact HO_3.out)⟩, ⟨by (with_reducible repeat (first | apply Kd.N_alloc | apply Kd.N_drewN | apply Kd.N_drew)); first | exact HO_5.out | (subst_vars; exact HO_5.out)⟩, ⟨by (with_reducible repeat (first | apply Kd.R_alloc | apply Kd.R_drewN | apply Kd.R_drew)); first | exact HO_11.out | (subst_vars; exact HO_11.out)⟩, ⟨by repeat (first | (with_reducible first | exact HB.out | apply below_alloc | apply pw_below_drewN | apply below_drew1) | exact HB.out)⟩⟩
                              case round =>
                                clear H'
                                try clear c1
                                try clear c2
                                try clear p2
                                try clear q2
                                try clear hx2
                                try clear c3
                                try clear p3
                                try clear q3
                                try clear hx3
                                try clear hf3
                                try clear p6
                                try clear c8
                                try clear c12
                                try clear c12b0
                                try clear c12b1
                                try clear c12b2
                                try clear c15
                                try clear c16
                                try clear c17
                                try clear c17b0
                                try clear c17b1
                                try clear c18
                                try clear c18b0
                                try clear c18b1
                                try clear c21
                                try clear c21b0
                                try clear c22
                                try clear c22b0
                                try clear c23
                                try clear c23b0
                                try clear c23b1
                                try clear c26
                                try clear c26b0
                                try clear p26
                                try clear q26
                                try clear hx26
                                try clear c27
                                try clear c28
                                try clear c28b0
                                try clear c28b1
                                try clear c29
                                try clear c29b0
                                try clear c30
                                try clear c30b0
                                try clear c31
                                try clear c31b0
                                try clear c32
                                try clear c32b0
                                try clear c33
                                try clear c33b0
                                try clear p34
                                try clear q34
                                try clear hx34
                                try clear hf34
                                try clear hx261_0
                                try clear hx263_0
                                try clear hx264_0
                                try clear hx265_0
                                try clear hx34_0
                                try clear p2
                                try clear p26
                                try clear p261
                                try clear p263
                                try clear p264
                                try clear p265
                                try clear p3
                                try clear p34
                                try clear p6
                                try clear q2
                                try clear q26
                                try clear q261
                                try clear q263
                                try clear q264
                                try clear q265
                                try clear q3
                                try clear q34
                                obtain ⟨x14_4, x15_4, rfl, rfl, HA, HK4, HO_3, HO_5, HO_11, HB⟩ := hrel
                                cases gk with
                                | zero => exact absurd HA.out (by simp [laws_FnBasis.l2])
                                | succ k4 =>
                                  have H := HA.out
                                  clear HA
                                  simp only [laws_FnBasis.l2] at H
                                  by_cases c38 : x15_4 < t226
                                  · rw [if_pos c38] at H
                                    have c38b0 : decide (x15_4 < t226) = true := decide_eq_true c38
                                    clear c38
                                    by_cases c39 : 0 ≤ x12_2
                                    · rw [if_pos c39] at H
                                      have c39b0 : decide (0 ≤ x12_2) = true := decide_eq_true c39
                                      clear c39
                                      by_cases c40 : x12_2 < (t229.length : Int)
                                      · rw [if_pos c40] at H
                                        have c40b0 : decide (x12_2 < (t229.length : Int)) = true := decide_eq_true c40
                                        clear c40
                                        by_cases c41 : 0 ≤ x15_4
                                        · rw [if_pos c41] at H
                                          have c41b0 : decide (0 ≤ x15_4) = true := decide_eq_true c41
                                          clear c41
                                          by_cases c42 : x15_4 < ((rd_L1 t229 x12_2).length : Int)
                                          · rw [if_pos c42] at H
                                            have c42b0 : decide (x15_4 < ((rd_L1 t229 x12_2).length : Int)) = true := decide_eq_true c42
                                            clear c42
                                            have H' := Aside0.mk H
                                            clear H
                                            have p267 : 0 ≤ (x12_2 : Int) := of_decide_eq_true (by first | (with_reducible assumption) | assumption)
                                            have q267 : x12_2 < (t229.length : Int) := of_decide_eq_true (by first | (with_reducible assumption) | assumption)
                                            obtain ⟨ad267, A267_0, c267_0, e267, hx267_0, hl267_0, hi267_0⟩ := at_L1 (Kd.N_reads' HO_5.out).2.2 x12_2 p267 q267
                                            obtain rfl : ad261 = ad267 := (by injection e267)
                                            obtain ⟨ce267, hce267, hMe267, hcc267⟩ := Kd.N_get HO_5.out [] x12_2 p267 (by first | exact q267 | exact of_decide_eq_true (by first | (with_reducible assumption) | assumption) | (have e_ := (Kd.N_reads' HO_5.out).1; omega))
                                            obtain ⟨ua267_0, uc267_0, rfl, ul267_0, ge267_0⟩ := Kd.FK_slice_open hMe267
                                            have hv267_0 := hcc267 0 _ rfl
                                            rw [Nat.add_zero, show ((Kd.slice 3 (Kd.int .i64))).sz = 1 from rfl, Nat.mul_one] at hv267_0
                                            replace hv267_0 := Option.some.inj (hv267_0.symm.trans hx267_0)
                                            injection hv267_0 with hva_ hvn_ hvc_
                                            rw [hva_] at ge267_0
                                            rw [hvc_] at ul267_0
                                            have HL267_0 := Aside0.mk (show Kd.V (Kd.int .i64) 3 _ w.heap.size _ _ (rd_L1 t229 x12_2) from Kd.V_mk ul267_0 ge267_0)
                                            clear hva_ hvn_ hvc_ ge267_0 ul267_0
                                            clear hcc267 hce267
                                            have HR267_0 := Aside0.mk hi267_0
                                            have HC267_0 := Aside0.mk hl267_0
                                            clear hi267_0 hl267_0
                                            replace p267 := eq_true p267
                                            replace q267 := eq_true q267
                                            have p268 : 0 ≤ (x15_4 : Int) := of_decide_eq_true (by first | (with_reducible assumption) | assumption)
                                            have q268 : x15_4 < ((rd_L1 t229 x12_2).length : Int) := of_decide_eq_true (by first | (with_reducible assumption) | assumption)
                                            obtain ⟨ad268, e268, hx268_0⟩ := Kd.at_int (by repeat (first | (with_reducible exact HR267_0.out) | (with_reducible refine Kd.C_alloc ?_ _) | (with_reducible refine Kd.C_drewN ?_ _) | (with_reducible refine Kd.C_drew ?_) | exact HR267_0.out)) x15_4 p268 q268
                                            cases e268
                                            replace p268 := eq_true p268
                                            replace q268 := eq_true q268
                                            go_wp2
                                            (try simp only [Act.put, List.setIfInBounds_toArray, List.set_cons_zero, List.set_cons_succ])
                                            go_loopg [16, 17] k4 (fun kq v16 v17 w' => ∃ (x16_5 : Bool) (x17_5 : Int), v16 = .bool x16_5 ∧ v17 = .int .i64 x17_5 ∧ Aside0 (laws_FnBasis.l3 kq l0 t225 t226 t229 x11_23 x12_2 x14_4 x15_4 x16_5 x17_5 = some r) ∧ Aside0 (kq ≤ k4) ∧ Aside0 (Kd.N (Kd.slice 3 (Kd.int .i64)) 23 w' w.heap.size (fun k_ => some k_ ≠ ((.slice (some ad261) t229.length co25) : Value).ownBlock ∧ some k_ ≠ (v255 : Value).ownBlock) (.slice Ao9 t225.length co9) t225) ∧ Aside0 (Kd.N (Kd.slice 3 (Kd.int .i64)) 23 w' w.heap.size (fun k_ => some k_ ≠ ((.slice Ao9 t225.length co9) : Value).ownBlock ∧ some k_ ≠ (v255 : Value).ownBlock) (.slice (some ad261) t229.length co25) t229) ∧ Aside0 (Kd.R (Kd.int .i64) 3 w' w.heap.size (fun _ => True) v255 x11_23) ∧ Aside0 (Kd.C (Kd.int .i64) w' (some ad268) (rd_L1 t229 x12_2).length (rd_L1 t229 x12_2)) ∧ Aside0 (Below w.heap.size w w'))
                                            case atStart => exact ⟨(((rd (rd_L1 t229 x12_2) x15_4) == 1)), (0), (by first | rfl | (simp; done) | (simp [*]; done)), (by first | rfl | (simp; done) | (simp [*]; done)), H', ⟨Nat.le_refl _⟩, ⟨by (with_reducible repeat (first | apply Kd.N_alloc | apply Kd.N_drewN | apply Kd.N_drew)); first | exact HO_3.out | (subst_vars; exact HO_3.out)⟩, ⟨by (with_reducible repeat (first | apply Kd.N_alloc | apply Kd.N_drewN | apply Kd.N_drew)); first | exact HO_5.out | (subst_vars; exact HO_5.out)⟩, ⟨by (with_reducible repeat (first | apply Kd.R_alloc | apply Kd.R_drewN | apply Kd.R_drew)); first | exact HO_11.out | (subst_vars; exact HO_11.out)⟩, ⟨by repeat (first | (with_reducible exact HR267_0.out) | (with_reducible refine Kd.C_alloc ?_ _) | (with_reducible refine Kd.C_drewN ?_ _) | (with_reducible refine Kd.C_drew ?_) | exact HR267_0.out)⟩, ⟨by repeat (first | (with_reducible first | exact HB.out | apply below_alloc | apply pw_below_drewN | apply below_drew1) | exact HB.out)⟩⟩
                                            case round =>
                                              clear H'
                                              try clear c1
                                              try clear c2
                                              try clear p2
                                              try clear q2
                                              try clear hx2
                                              try clear c3
                                              try clear p3
                                              try clear q3
                                              try clear hx3
                                              try clear hf3
                                              try clear c4
                                              try clear p6
                                              try clear c8
                                              try clear c12
                                              try clear c12b0
                                              try clear c12b1
                                              try clear c12b2
                                              try clear c15
                                              try clear c16
                                              try clear c17
                                              try clear c17b0
                                              try clear c17b1
                                              try clear c18
                                              try clear c18b0
                                              try clear c18b1
                                              try clear c21
                                              try clear c21b0
                                              try clear c22
                                              try clear c22b0
                                              try clear c23
                                              try clear c23b0
                                              try clear c23b1
                                              try clear c26
                                              try clear c26b0
                                              try clear p26
                                              try clear q26
                                              try clear hx26
                                              try clear c27
                                              try clear c28
                                              try clear c28b0
                                              try clear c28b1
                                              try clear c29
                                              try clear c29b0
                                              try clear c30
                                              try clear c30b0
                                              try clear c31
                                              try clear c31b0
                                              try clear c32
                                              try clear c32b0
                                              try clear c33
                                              try clear c33b0
                                              try clear p34
                                              try clear q34
                                              try clear hx34
                                              try clear hf34
                                              try clear c38
                                              try clear c38b0
                                              try clear c39
                                              try clear c39b0
                                              try clear c40
                                              try clear c40b0
                                              try clear c41
                                              try clear c41b0
                                              try clear c42
                                              try clear c42b0
                                              try clear hx261_0
                                              try clear hx263_0
                                              try clear hx264_0
                                              try clear hx265_0
                                              try clear hx267_0
                                              try clear hx268_0
                                              try clear hx34_0
                                              try clear p2
                                              try clear p26
                                              try clear p261
                                              try clear p263
                                              try clear p264
                                              try clear p265
                                              try clear p267
                                              try clear p268
                                              try clear p3
                                              try clear p34
                                              try clear p6
                                              try clear q2
                                              try clear q26
                                              try clear q261
                                              try clear q263
                                              try clear q264
                                              try clear q265
                                              try clear q267
                                              try clear q268
                                              try clear q3
                                              try clear q34
                                              obtain ⟨x16_5, x17_5, rfl, rfl, HA, HK5, HO_3, HO_5, HO_11, HR267_0, HB⟩ := hrel
                                              cases gk with
                                              | zero => exact absurd HA.out (by simp [laws_FnBasis.l3])
                                              | succ k5 =>
                                                have H := HA.out
                                                clear HA
                                                simp only [laws_FnBasis.l3] at H
                                                by_cases c43 : x17_5 < (t229.length : Int)
                                                · rw [if_pos c43] at H
                                                  have c43b0 : decide (x17_5 < (t229.length : Int)) = true := decide_eq_true c43
                                                  clear c43
                                                  by_cases c44 : x16_5 = true
                                                  · subst c44
                                                    have H1 : (if x17_5 = x12_2 then (laws_FnBasis.l3 k5 l0 t225 t226 t229 x11_23 x12_2 x14_4 x15_4 true (wrap64 (x17_5 + 1))) else (if 0 ≤ x17_5 then (if 0 ≤ x15_4 then (if x15_4 < ((rd_L1 t229 x17_5).length : Int) then (laws_FnBasis.l3 k5 l0 t225 t226 t229 x11_23 x12_2 x14_4 x15_4 ((rd (rd_L1 t229 x17_5) x15_4) == 0) (wrap64 (x17_5 + 1))) else (none)) else (none)) else (none))) = some r := by rw [if_pos rfl] at H; exact H
                                                    clear H
                                                    have H := H1
                                                    clear H1
                                                    by_cases c45 : x17_5 = x12_2
                                                    · rw [if_pos c45] at H
                                                      have c45b0 : (x17_5 == x12_2) = true := beq_iff_eq.mpr c45
                                                      have c45b1 : (x17_5 != x12_2) = false := bne_eq_false_iff_eq.mpr c45
                                                      clear c45
                                                      have H' := Aside0.mk H
                                                      clear H
                                                      go_wp2
                                                      go_roundg k5
                                                      case measure => have := HJ6.out; have := HK2.out; have := HJ23.out; have := HK4.out; have := HK5.out; omega
                                                      case rel => exact ⟨(true), (wrap64 (x17_5 + 1)), (by first | rfl | (simp; done) | (simp [*]; done)), (by first | rfl | (simp; done) | (simp [*]; done)), H', ⟨by have := HJ6.out; have := HK2.out; have := HJ23.out; have := HK4.out; have := HK5.out; omega⟩, ⟨by (with_reducible repeat (first | apply Kd.N_alloc | apply Kd.N_drewN | apply Kd.N_drew)); first | exact HO_3.out | (subst_vars; exact HO_3.out)⟩, ⟨by (with_reducible repeat (first | apply Kd.N_alloc | apply Kd.N_drewN | apply Kd.N_drew)); first | exact HO_5.out | (subst_vars; exact HO_5.out)⟩, ⟨by (with_reducible repeat (first | apply Kd.R_alloc | apply Kd.R_drewN | apply Kd.R_drew)); first | exact HO_11.out | (subst_vars; exact HO_11.out)⟩, ⟨by repeat (first | (with_reducible exact HR267_0.out) | (with_reducible refine Kd.C_alloc ?_ _) | (with_reducible refine Kd.C_drewN ?_ _) | (with_reducible refine Kd.C_drew ?_) | exact HR267_0.out)⟩, ⟨by repeat (first | (with_reducible first | exact HB.out | apply below_alloc | apply pw_below_drewN | apply below_drew1) | exact HB.out)⟩⟩
                                                    · rw [if_neg c45] at H
                                                      have c45b0 : (x17_5 == x12_2) = false := beq_eq_false_iff_ne.mpr c45
                                                      have c45b1 : (x17_5 != x12_2) = true := bne_iff_ne.mpr c45
                                                      by_cases c46 : 0 ≤ x17_5
                                                      · rw [if_pos c46] at H
                                                        have c46b0 : decide (0 ≤ x17_5) = true := decide_eq_true c46
                                                        clear c46
                                                        by_cases c47 : 0 ≤ x15_4
                                                        · rw [if_pos c47] at H
                                                          have c47b0 : decide (0 ≤ x15_4) = true := decide_eq_true c47
                                                          clear c47
                                                          by_cases c48 : x15_4 < ((rd_L1 t229 x17_5).length : Int)
                                                          · rw [if_pos c48] at H
                                                            have c48b0 : decide (x15_4 < ((rd_L1 t229 x17_5).length : Int)) = true := decide_eq_true c48
                                                            clear c48
                                                            have H' := Aside0.mk H
                                                            clear H
                                                            have p269 : 0 ≤ (x17_5 : Int) := of_decide_eq_true (by first | (with_reducible assumption) | assumption)
                                                            have q269 : x17_5 < (t229.length : Int) := of_decide_eq_true (by first | (with_reducible assumption) | assumption)
                                                            obtain ⟨ad269, A269_0, c269_0, e269, hx269_0, hl269_0, hi269_0⟩ := at_L1 (Kd.N_reads' HO_5.out).2.2 x17_5 p269 q269
                                                            obtain rfl : ad261 = ad269 := (by injection e269)
                                                            obtain ⟨ce269, hce269, hMe269, hcc269⟩ := Kd.N_get HO_5.out [] x17_5 p269 (by first | exact q269 | exact of_decide_eq_true (by first | (with_reducible assumption) | assumption) | (have e_ := (Kd.N_reads' HO_5.out).1; omega))
                                                            obtain ⟨ua269_0, uc269_0, rfl, ul269_0, ge269_0⟩ := Kd.FK_slice_open hMe269
                                                            have hv269_0 := hcc269 0 _ rfl
                                                            rw [Nat.add_zero, show ((Kd.slice 3 (Kd.int .i64))).sz = 1 from rfl, Nat.mul_one] at hv269_0
                                                            replace hv269_0 := Option.some.inj (hv269_0.symm.trans hx269_0)
                                                            injection hv269_0 with hva_ hvn_ hvc_
                                                            rw [hva_] at ge269_0
                                                            rw [hvc_] at ul269_0
                                                            have HL269_0 := Aside0.mk (show Kd.V (Kd.int .i64) 3 _ w.heap.size _ _ (rd_L1 t229 x17_5) from Kd.V_mk ul269_0 ge269_0)
                                                            clear hva_ hvn_ hvc_ ge269_0 ul269_0
                                                            clear hcc269 hce269
                                                            have HR269_0 := Aside0.mk hi269_0
                                                            have HC269_0 := Aside0.mk hl269_0
                                                            clear hi269_0 hl269_0
                                                            replace p269 := eq_true p269
                                                            replace q269 := eq_true q269
                                                            have p270 : 0 ≤ (x15_4 : Int) := of_decide_eq_true (by first | (with_reducible assumption) | assumption)
                                                            have q270 : x15_4 < ((rd_L1 t229 x17_5).length : Int) := of_decide_eq_true (by first | (with_reducible assumption) | assumption)
                                                            obtain ⟨ad270, e270, hx270_0⟩ := Kd.at_int (by repeat (first | (with_reducible exact HR269_0.out) | (with_reducible refine Kd.C_alloc ?_ _) | (with_reducible refine Kd.C_drewN ?_ _) | (with_reducible refine Kd.C_drew ?_) | exact HR269_0.out)) x15_4 p270 q270
                                                            cases e270
                                                            replace p270 := eq_true p270
                                                            replace q270 := eq_true q270
                                                            go_wp2
                                                            go_roundg k5
                                                            case measure => have := HJ6.out; have := HK2.out; have := HJ23.out; have := HK4.out; have := HK5.out; omega
                                                            case rel => exact ⟨(((rd (rd_L1 t229 x17_5) x15_4) == 0)), (wrap64 (x17_5 + 1)), (by first | rfl | (simp; done) | (simp [*]; done)), (by first | rfl | (simp; done) | (simp [*]; done)), H', ⟨by have := HJ6.out; have := HK2.out; have := HJ23.out; have := HK4.out; have := HK5.out; omega⟩, ⟨by (with_reducible repeat (first | apply Kd.N_alloc | apply Kd.N_drewN | apply Kd.N_drew)); first | exact HO_3.out | (subst_vars; exact HO_3.out)⟩, ⟨by (with_reducible repeat (first | apply Kd.N_alloc | apply Kd.N_drewN | apply Kd.N_drew)); first | exact HO_5.out | (subst_vars; exact HO_5.out)⟩, ⟨by (with_reducible repeat (first | apply Kd.R_alloc | apply Kd.R_drewN | apply Kd.R_drew)); first | exact HO_11.out | (subst_vars; exact HO_11.out)⟩, ⟨by repeat (first | (with_reducible exact HR267_0.out) | (with_reducible refine Kd.C_alloc ?_ _) | (with_reducible refine Kd.C_drewN ?_ _) | (with_reducible refine Kd.C_drew ?_) | exact HR267_0.out)⟩, ⟨by repeat (first | (with_reducible first | exact HB.out | apply below_alloc | apply pw_below_drewN | apply below_drew1) | exact HB.out)⟩⟩
                                                          · rw [if_neg c48] at H
                                                            exact absurd H (by simp)
                                                        · rw [if_neg c47] at H
                                                          exact absurd H (by simp)
                                                      · rw [if_neg c46] at H
                                                        exact absurd H (by simp)
                                                  · replace c44 := Bool.eq_false_iff.mpr c44
                                                    subst c44
                                                    have H1 : (laws_FnBasis.l3 k5 l0 t225 t226 t229 x11_23 x12_2 x14_4 x15_4 false (wrap64 (x17_5 + 1))) = some r := by rw [if_neg (show ¬ (false = true) by decide)] at H; exact H
                                                    clear H
                                                    have H := H1
                                                    clear H1
                                                    have H' := Aside0.mk H
                                                    clear H
                                                    go_wp2
                                                    go_roundg k5
                                                    case measure => have := HJ6.out; have := HK2.out; have := HJ23.out; have := HK4.out; have := HK5.out; omega
                                                    case rel => exact ⟨(false), (wrap64 (x17_5 + 1)), (by first | rfl | (simp; done) | (simp [*]; done)), (by first | rfl | (simp; done) | (simp [*]; done)), H', ⟨by have := HJ6.out; have := HK2.out; have := HJ23.out; have := HK4.out; have := HK5.out; omega⟩, ⟨by (with_reducible repeat (first | apply Kd.N_alloc | apply Kd.N_drewN | apply Kd.N_drew)); first | exact HO_3.out | (subst_vars; exact HO_3.out)⟩, ⟨by (with_reducible repeat (first | apply Kd.N_alloc | apply Kd.N_drewN | apply Kd.N_drew)); first | exact HO_5.out | (subst_vars; exact HO_5.out)⟩, ⟨by (with_reducible repeat (first | apply Kd.R_alloc | apply Kd.R_drewN | apply Kd.R_drew)); first | exact HO_11.out | (subst_vars; exact HO_11.out)⟩, ⟨by repeat (first | (with_reducible exact HR267_0.out) | (with_reducible refine Kd.C_alloc ?_ _) | (with_reducible refine Kd.C_drewN ?_ _) | (with_reducible refine Kd.C_drew ?_) | exact HR267_0.out)⟩, ⟨by repeat (first | (with_reducible first | exact HB.out | apply below_alloc | apply pw_below_drewN | apply below_drew1) | exact HB.out)⟩⟩
                                                · rw [if_neg c43] at H
                                                  have c43b0 : decide (x17_5 < (t229.length : Int)) = false := decide_eq_false c43
                                                  clear c43
                                                  by_cases c49 : x14_4 = true
                                                  · subst c49
                                                    have H1 : (laws_FnBasis.l2 k5 l0 t225 t226 t229 x11_23 x12_2 true (wrap64 (x15_4 + 1))) = some r := by rw [if_pos rfl] at H; exact H
                                                    clear H
                                                    have H := H1
                                                    clear H1
                                                    have H' := Aside0.mk H
                                                    clear H
                                                    go_wp2
                                                    go_roundg k5
                                                    case measure => have := HJ6.out; have := HK2.out; have := HJ23.out; have := HK4.out; have := HK5.out; omega
                                                    case rel => exact ⟨(true), (wrap64 (x15_4 + 1)), (by first | rfl | (simp; done) | (simp [*]; done)), (by first | rfl | (simp; done) | (simp [*]; done)), H', ⟨by have := HJ6.out; have := HK2.out; have := HJ23.out; have := HK4.out; have := HK5.out; omega⟩, ⟨by (with_reducible repeat (first | apply Kd.N_alloc | apply Kd.N_drewN | apply Kd.N_drew)); first | exact HO_3.out | (subst_vars; exact HO_3.out)⟩, ⟨by (with_reducible repeat (first | apply Kd.N_alloc | apply Kd.N_drewN | apply Kd.N_drew)); first | exact HO_5.out | (subst_vars; exact HO_5.out)⟩, ⟨by (with_reducible repeat (first | apply Kd.R_alloc | apply Kd.R_drewN | apply Kd.R_drew)); first | exact HO_11.out | (subst_vars; exact HO_11.out)⟩, ⟨by repeat (first | (with_reducible first | exact HB.out | apply below_alloc | apply pw_below_drewN | apply below_drew1) | exact HB.out)⟩⟩
                                                  · replace c49 := Bool.eq_false_iff.mpr c49
                                                    subst c49
                                                    have H1 : (laws_FnBasis.l2 k5 l0 t225 t226 t229 x11_23 x12_2 x16_5 (wrap64 (x15_4 + 1))) = some r := by rw [if_neg (show ¬ (false = true) by decide)] at H; exact H
                                                    clear H
                                                    have H := H1
                                                    clear H1
                                                    have H' := Aside0.mk H
                                                    clear H
                                                    go_wp2
                                                    go_roundg k5
                                                    case measure => have := HJ6.out; have := HK2.out; have := HJ23.out; have := HK4.out; have := HK5.out; omega
                                                    case rel => exact ⟨(x16_5), (wrap64 (x15_4 + 1)), (by first | rfl | (simp; done) | (simp [*]; done)), (by first | rfl | (simp; done) | (simp [*]; done)), H', ⟨by have := HJ6.out; have := HK2.out; have := HJ23.out; have := HK4.out; have := HK5.out; omega⟩, ⟨by (with_reducible repeat (first | apply Kd.N_alloc | apply Kd.N_drewN | apply Kd.N_drew)); first | exact HO_3.out | (subst_vars; exact HO_3.out)⟩, ⟨by (with_reducible repeat (first | apply Kd.N_alloc | apply Kd.N_drewN | apply Kd.N_drew)); first | exact HO_5.out | (subst_vars; exact HO_5.out)⟩, ⟨by (with_reducible repeat (first | apply Kd.R_alloc | apply Kd.R_drewN | apply Kd.R_drew)); first | exact HO_11.out | (subst_vars; exact HO_11.out)⟩, ⟨by repeat (first | (with_reducible first | exact HB.out | apply below_alloc | apply pw_below_drewN | apply below_drew1) | exact HB.out)⟩⟩
                                          · rw [if_neg c42] at H
                                            exact absurd H (by simp)
                                        · rw [if_neg c41] at H
                                          exact absurd H (by simp)
                                      · rw [if_neg c40] at H
                                        exact absurd H (by simp)
                                    · rw [if_neg c39] at H
                                      exact absurd H (by simp)
                                  · rw [if_neg c38] at H
                                    have c38b0 : decide (x15_4 < t226) = false := decide_eq_false c38
                                    clear c38
                                    by_cases c50 : x14_4 = true
                                    · subst c50
                                      have H1 : (laws_FnBasis.l0 k4 l0 t225 t226 t229 x11_23 (wrap64 (x12_2 + 1))) = some r := by rw [if_pos rfl] at H; exact H
                                      clear H
                                      have H := H1
                                      clear H1
                                      have H' := Aside0.mk H
                                      clear H
                                      go_wp2
                                      go_roundg k4
                                      case measure => have := HJ6.out; have := HK2.out; have := HJ23.out; have := HK4.out; omega
                                      case rel => exact ⟨(x11_23), (wrap64 (x12_2 + 1)), (by first | rfl | (simp; done) | (simp [*]; done)), H', ⟨by have := HJ6.out; have := HK2.out; have := HJ23.out; have := HK4.out; omega⟩, ⟨by (with_reducible repeat (first | apply Kd.N_alloc | apply Kd.N_drewN | apply Kd.N_drew)); first | exact HO_3.out | (subst_vars; exact HO_3.out)⟩, ⟨by (with_reducible repeat (first | apply Kd.N_alloc | apply Kd.N_drewN | apply Kd.N_drew)); first | exact HO_5.out | (subst_vars; exact HO_5.out)⟩, ⟨by (with_reducible repeat (first | apply Kd.R_alloc | apply Kd.R_drewN | apply Kd.R_drew)); first | exact HO_11.out | (subst_vars; exact HO_11.out)⟩, ⟨by repeat (first | (with_reducible first | exact HB.out | apply below_alloc | apply pw_below_drewN | apply below_drew1) | exact HB.out)⟩⟩
                                    · replace c50 := Bool.eq_false_iff.mpr c50
                                      subst c50
                                      have H1 : (some false) = some r := by rw [if_neg (show ¬ (false = true) by decide)] at H; exact H
                                      clear H
                                      have H := H1
                                      clear H1
                                      exact absurd (Option.some.inj H) (by rw [hr_]; decide)
                        · rw [if_neg c23] at H
                          have c23b0 : (((rd_L1 t229 x12_2).length : Int) == t226) = false := beq_eq_false_iff_ne.mpr c23
                          have c23b1 : (((rd_L1 t229 x12_2).length : Int) != t226) = true := bne_iff_ne.mpr c23
                          exact absurd (Option.some.inj H) (by rw [hr_]; decide)
                      · rw [if_neg c22] at H
                        exact absurd H (by simp)
                    · rw [if_neg c21] at H
                      have c21b0 : decide (x12_2 < (t229.length : Int)) = false := decide_eq_false c21
                      clear c21
                      replace H := Option.bind_eq_some_iff.mp H
                      obtain ⟨⟨t257, t258⟩, A510, H⟩ := H
                      replace H : (if t258 = true then (some ((t257.length : Int) == 0)) else (some false)) = some r := H
                      have A51 := Aside0.mk A510
                      clear A510
                      by_cases c52 : t258 = true
                      · subst c52
                        have H1 : (some ((t257.length : Int) == 0)) = some r := by rw [if_pos rfl] at H; exact H
                        clear H
                        have H := H1
                        clear H1
                        obtain rfl := Option.some.inj H
                        obtain ⟨Ao53, co53, eo53⟩ := Kd.N_slice HO_5.out
                        subst eo53
                        obtain ⟨Ao54, co54, eo54⟩ := Kd.R_slice HO_11.out
                        subst eo54
                        go_wp2_with (first | ((with_reducible refine gate_callee (f := 13) rfl ?_); refine goesL_ (some 150) rfl rfl Try.func13 (by kernel_rfl) rfl #[.slice Ao9 t225.length co9, .slice Ao54 x11_2.length co54] rfl (by (try simp only [List.map_toArray, List.map_cons, List.map_nil]); first | done | rfl | (simp only [List.length_drop, List.length_take]; rfl)) ?_; (with_reducible refine (impl_Fails.calls k2 _ _ t225 _ _ x11_2 t257 true _ ?side1 ?side2 ?side3 ?side4 A51.out).mono ?_); (case side1 => repeat (first | exact (Kd.N_reads' HO_3.out).2.2 | (with_reducible refine Kd.C_alloc ?_ _) | (with_reducible refine Kd.C_drewN ?_ _) | (with_reducible refine Kd.C_drew ?_))); (case side2 => exact (Kd.N_reads' HO_3.out).2.1); (case side3 => repeat (first | exact (Kd.R_reads' HO_11.out).2.2 | (with_reducible refine Kd.C_alloc ?_ _) | (with_reducible refine Kd.C_drewN ?_ _) | (with_reducible refine Kd.C_drew ?_))); (case side4 => exact (Kd.R_reads' HO_11.out).2.1); rintro e w55 ⟨v259, rfl, ho0, hb⟩; refine ⟨_, rfl, ?_⟩; have n0_ := Aside0.mk (Kd.N_elder' (by (with_reducible repeat (first | apply Kd.N_alloc | apply Kd.N_drewN | apply Kd.N_drew)); first | exact HO_3.out | (subst_vars; exact HO_3.out)) (Kd.R_base ho0) hb); have n1_ := Aside0.mk (Kd.N_elder' (by (with_reducible repeat (first | apply Kd.N_alloc | apply Kd.N_drewN | apply Kd.N_drew)); first | exact HO_5.out | (subst_vars; exact HO_5.out)) (Kd.R_base ho0) hb); have n2_ := Aside0.mk (Kd.R_elder' (by (with_reducible repeat (first | apply Kd.R_alloc | apply Kd.R_drewN | apply Kd.R_drew)); first | exact HO_11.out | (subst_vars; exact HO_11.out)) (Kd.R_base ho0) hb); have n3_ := Aside0.mk (Kd.R_lower (Kd.R_new' ho0 (Kd.R_lt (by (with_reducible repeat (first | apply Kd.R_alloc | apply Kd.R_drewN | apply Kd.R_drew)); first | exact HO_11.out | (subst_vars; exact HO_11.out)))) (below_size (by repeat (first | (with_reducible first | exact HB.out | apply below_alloc | apply pw_below_drewN | apply below_drew1) | exact HB.out)))); have n4_ := Aside0.mk (below_step (by repeat (first | (with_reducible first | exact HB.out | apply below_alloc | apply pw_below_drewN | apply below_drew1) | exact HB.out)) hb); clear HO_3; clear HO_5; clear HO_11; clear HB; have HO_3 := n0_; have HO_5 := n1_; have HO_11 := n2_; have HO260 := n3_; have HB := n4_; clear n0_ n1_ n2_ n3_ n4_; (try clear hb); (try clear hb2); (try clear hk); (try clear hi); (try clear ho0); obtain ⟨Ao56, co56, eo56⟩ := Kd.R_slice HO260.out; subst eo56))
                        go_ret
                        exact ⟨by first | rfl | (simp [errW_none, errW_some] <;> rfl) | (simp [*, errW_none, errW_some] <;> rfl), by repeat (first | (with_reducible first | exact HB.out | apply below_alloc | apply pw_below_drewN | apply below_drew1) | exact HB.out)⟩
                      · replace c52 := Bool.eq_false_iff.mpr c52
                        subst c52
                        have H1 : (some false) = some r := by rw [if_neg (show ¬ (false = true) by decide)] at H; exact H
                        clear H
                        have H := H1
                        clear H1
                        exact absurd (Option.some.inj H) (by rw [hr_]; decide)
              · rw [if_neg c18] at H
                exact absurd H (by simp)
            · rw [if_neg c17] at H
              exact absurd H (by simp)
          · replace c16 := Bool.eq_false_iff.mpr c16
            subst c16
            have H1 : ((impl_Basis.f kj6 (([(([0, 1] : List Int))] : List (List Int))) 2).bind fun bt243 => (if bt243.2 = true then ((laws_sameRows.f kj6 bt243.1 (([(([1, 1] : List Int))] : List (List Int)))).bind fun t253 => (some t253)) else (some false))) = some r := by rw [if_neg (show ¬ (false = true) by decide)] at H; exact H
            clear H
            have H := H1
            clear H1
            obtain ⟨y237, hy237⟩ : ∃ y_ : List Int, y_ = (([0, 1] : List Int)) := ⟨_, rfl⟩
            replace H : ((impl_Basis.f kj6 (([y237] : List (List Int))) 2).bind fun bt243 => (if bt243.2 = true then ((laws_sameRows.f kj6 bt243.1 (([(([1, 1] : List Int))] : List (List Int)))).bind fun t253 => (some t253)) else (some false))) = some r := by first | (rw [hy237]; with_reducible exact H) | (have H2_ := (Option.bind_some _ _).symm.trans H; rw [hy237]; with_reducible exact H2_) | (have H2_ := (Option.bind_some _ _).symm.trans H; with_reducible exact H2_) | with_reducible exact H | (rw [hy237]; exact H) | exact H
            have Ny237 := Aside0.mk hy237
            clear hy237
            obtain ⟨y240, hy240⟩ : ∃ y_ : List (List Int), y_ = (([y237] : List (List Int))) := ⟨_, rfl⟩
            replace H : ((impl_Basis.f kj6 y240 2).bind fun bt243 => (if bt243.2 = true then ((laws_sameRows.f kj6 bt243.1 (([(([1, 1] : List Int))] : List (List Int)))).bind fun t253 => (some t253)) else (some false))) = some r := by first | (rw [hy240]; with_reducible exact H) | (have H2_ := (Option.bind_some _ _).symm.trans H; rw [hy240]; with_reducible exact H2_) | (have H2_ := (Option.bind_some _ _).symm.trans H; with_reducible exact H2_) | with_reducible exact H | (rw [hy240]; exact H) | exact H
            have Ny240 := Aside0.mk hy240
            clear hy240
            replace H := Option.bind_eq_some_iff.mp H
            obtain ⟨⟨t243, t244⟩, A570, H⟩ := H
            replace H : (if t244 = true then ((laws_sameRows.f kj6 t243 (([(([1, 1] : List Int))] : List (List Int)))).bind fun t253 => (some t253)) else (some false)) = some r := H
            have A57 := Aside0.mk A570
            clear A570
            by_cases c58 : t244 = true
            · subst c58
              have H1 : ((laws_sameRows.f kj6 t243 (([(([1, 1] : List Int))] : List (List Int)))).bind fun t253 => (some t253)) = some r := by rw [if_pos rfl] at H; exact H
              clear H
              have H := H1
              clear H1
              obtain ⟨y247, hy247⟩ : ∃ y_ : List Int, y_ = (([1, 1] : List Int)) := ⟨_, rfl⟩
              replace H : ((laws_sameRows.f kj6 t243 (([y247] : List (List Int)))).bind fun t253 => (some t253)) = some r := by first | (rw [hy247]; with_reducible exact H) | (have H2_ := (Option.bind_some _ _).symm.trans H; rw [hy247]; with_reducible exact H2_) | (have H2_ := (Option.bind_some _ _).symm.trans H; with_reducible exact H2_) | with_reducible exact H | (rw [hy247]; exact H) | exact H
              have Ny247 := Aside0.mk hy247
              clear hy247
              obtain ⟨y250, hy250⟩ : ∃ y_ : List (List Int), y_ = (([y247] : List (List Int))) := ⟨_, rfl⟩
              replace H : ((laws_sameRows.f kj6 t243 y250).bind fun t253 => (some t253)) = some r := by first | (rw [hy250]; with_reducible exact H) | (have H2_ := (Option.bind_some _ _).symm.trans H; rw [hy250]; with_reducible exact H2_) | (have H2_ := (Option.bind_some _ _).symm.trans H; with_reducible exact H2_) | with_reducible exact H | (rw [hy250]; exact H) | exact H
              have Ny250 := Aside0.mk hy250
              clear hy250
              replace H := Option.bind_eq_some_iff.mp H
              obtain ⟨t253, A590, H⟩ := H
              replace H : (some t253) = some r := H
              have A59 := Aside0.mk A590
              clear A590
              obtain rfl := Option.some.inj H
              go_wp2_with (first | ((with_reducible refine gate_dst (N := 52) rfl ?_); (try (refine gate_guard (by rfl) ?_; dsimp only)); refine Kd.R_lit (Kd.int .i64) _ 3 ?hg (N := 52) ?hd (xs := ([0, 1] : List Int)) (inner := [.int .i64 0, .int .i64 1]) (ok := fun _ => True) (okp := fun _ => True) ?hr ?hp (fun _ hk => hk) trivial (Below.refl _ _) (Nat.le_refl _) (by simp) ?_; (case hd => rfl); (case hg => rfl); (case hr => first | (go_simp; done) | (go_simp; rfl)); (case hp => exact (Reps.one (show Kd.M (Kd.int .i64) _ _ _ 0 [.int .i64 0] from rfl) (Reps.one (show Kd.M (Kd.int .i64) _ _ _ 1 [.int .i64 1] from rfl) (Reps.none _ _)))); intro v238 w60 ho61 hb hg_ hnew_; clear hg_ hnew_; (first | rw [← Ny237.out] at ho61 | (simp only [Int.reduceToNat] at ho61; rw [← Ny237.out] at ho61)); have n0_ := Aside0.mk (Kd.N_elder' (by (with_reducible repeat (first | apply Kd.N_alloc | apply Kd.N_drewN | apply Kd.N_drew)); first | exact HO_3.out | (subst_vars; exact HO_3.out)) (Kd.R_base ho61) hb); have n1_ := Aside0.mk (Kd.N_elder' (by (with_reducible repeat (first | apply Kd.N_alloc | apply Kd.N_drewN | apply Kd.N_drew)); first | exact HO_5.out | (subst_vars; exact HO_5.out)) (Kd.R_base ho61) hb); have n2_ := Aside0.mk (Kd.R_lower ho61 (below_size (by repeat (first | (with_reducible first | exact HB.out | apply below_alloc | apply pw_below_drewN | apply below_drew1) | exact HB.out)))); have n3_ := Aside0.mk (below_step (by repeat (first | (with_reducible first | exact HB.out | apply below_alloc | apply pw_below_drewN | apply below_drew1) | exact HB.out)) hb); clear HO_3; clear HO_5; clear HB; have HO_3 := n0_; have HO_5 := n1_; have HO239 := n2_; have HB := n3_; clear n0_ n1_ n2_ n3_; clear hb ho61; obtain ⟨Ao62, co62, eo62⟩ := Kd.R_slice HO239.out; subst eo62) | ((with_reducible refine gate_dst (N := 53) rfl ?_); (try (refine gate_guard (by rfl) ?_; dsimp only)); refine Kd.N_lit (Kd.slice 3 (Kd.int .i64)) _ 23 ?hg (N' := 53) ?hd (xs := ([y237] : List (List Int))) (inner := [.slice Ao62 y237.length co62]) (ok := (fun k_ => some k_ ≠ (.slice Ao9 t225.length co9 : Value).ownBlock ∧ some k_ ≠ (v231 : Value).ownBlock)) (okp := (fun k_ => some k_ ≠ (.slice Ao9 t225.length co9 : Value).ownBlock ∧ some k_ ≠ (v231 : Value).ownBlock)) ?hr ?hp (fun _ hk => hk) ((show ∀ k_, w60.heap.size ≤ k_ → (fun k_ => some k_ ≠ (.slice Ao9 t225.length co9 : Value).ownBlock ∧ some k_ ≠ (v231 : Value).ownBlock) k_ from fun k_ hk => ⟨Kd.fresh' (Kd.N_lt (by (with_reducible repeat (first | apply Kd.N_alloc | apply Kd.N_drewN | apply Kd.N_drew)); first | exact HO_3.out | (subst_vars; exact HO_3.out))) k_ hk, Kd.fresh' (Kd.N_lt (by (with_reducible repeat (first | apply Kd.N_alloc | apply Kd.N_drewN | apply Kd.N_drew)); first | exact HO_5.out | (subst_vars; exact HO_5.out))) k_ hk⟩) _ (Nat.le_refl _)) (Below.refl _ _) (Nat.le_refl _) (by simp) ?_; (case hd => rfl); (case hg => rfl); (case hr => first | (go_simp; done) | (go_simp; rfl)); (case hp => exact (Reps.one (show Kd.FK (Kd.slice 3 (Kd.int .i64)) _ _ y237 [.slice Ao62 y237.length co62] from (Kd.FK_slice_mk (Kd.R_reads' (Kd.R_mono (ok' := (fun k_ => some k_ ≠ (.slice Ao9 t225.length co9 : Value).ownBlock ∧ some k_ ≠ (v231 : Value).ownBlock)) (Kd.R_apart' (Kd.R_apart' (HO239.out) (Kd.N_typed HO_3.out) (by decide)) (Kd.N_typed HO_5.out) (by decide)) (fun k_ hk => ⟨hk.1.2, hk.2⟩))).2.1 (Kd.R_F (Kd.R_mono (ok' := (fun k_ => some k_ ≠ (.slice Ao9 t225.length co9 : Value).ownBlock ∧ some k_ ≠ (v231 : Value).ownBlock)) (Kd.R_apart' (Kd.R_apart' (HO239.out) (Kd.N_typed HO_3.out) (by decide)) (Kd.N_typed HO_5.out) (by decide)) (fun k_ hk => ⟨hk.1.2, hk.2⟩))))) (Reps.none _ _))); intro v241 w63 ho64 hb hg_ hnew_; clear hg_ hnew_; (first | rw [← Ny240.out] at ho64 | (simp only [Int.reduceToNat] at ho64; rw [← Ny240.out] at ho64)); have n0_ := Aside0.mk (Kd.N_elder' (by (with_reducible repeat (first | apply Kd.N_alloc | apply Kd.N_drewN | apply Kd.N_drew)); first | exact HO_3.out | (subst_vars; exact HO_3.out)) (Kd.N_base ho64) hb); have n1_ := Aside0.mk (Kd.N_elder' (by (with_reducible repeat (first | apply Kd.N_alloc | apply Kd.N_drewN | apply Kd.N_drew)); first | exact HO_5.out | (subst_vars; exact HO_5.out)) (Kd.N_base ho64) hb); have n2_ := Aside0.mk (Kd.N_lower ho64 (below_size (by repeat (first | (with_reducible first | exact HB.out | apply below_alloc | apply pw_below_drewN | apply below_drew1) | exact HB.out)))); have n3_ := Aside0.mk (below_step (by repeat (first | (with_reducible first | exact HB.out | apply below_alloc | apply pw_below_drewN | apply below_drew1) | exact HB.out)) hb); clear HO_3; clear HO_5; clear HB; clear HO239; have HO_3 := n0_; have HO_5 := n1_; have HO242 := n2_; have HB := n3_; clear n0_ n1_ n2_ n3_; clear hb ho64; obtain ⟨Ao65, co65, eo65⟩ := Kd.N_slice HO242.out; subst eo65) | ((with_reducible refine gate_callee (f := 28) rfl ?_); refine goesL_ (some 54) rfl rfl Try.func28 (by kernel_rfl) rfl #[.slice Ao65 y240.length co65, .int .i64 2] rfl (by (try simp only [List.map_toArray, List.map_cons, List.map_nil]); first | done | rfl | (simp only [List.length_drop, List.length_take]; rfl)) ?_; (with_reducible refine (impl_Basis.calls kj6 _ _ y240 2 t243 true _ ?side1 ?side2 A57.out).mono ?_); (case side1 => repeat (first | exact (Kd.N_reads' HO242.out).2.2 | (with_reducible refine Kd.C_alloc ?_ _) | (with_reducible refine Kd.C_drewN ?_ _) | (with_reducible refine Kd.C_drew ?_))); (case side2 => exact (Kd.N_reads' HO242.out).2.1); rintro e w66 ⟨v245, rfl, ho0, hb⟩; refine ⟨_, rfl, ?_⟩; have n0_ := Aside0.mk (Kd.N_elder' (by (with_reducible repeat (first | apply Kd.N_alloc | apply Kd.N_drewN | apply Kd.N_drew)); first | exact HO_3.out | (subst_vars; exact HO_3.out)) (Kd.S_base ho0) hb); have n1_ := Aside0.mk (Kd.N_elder' (by (with_reducible repeat (first | apply Kd.N_alloc | apply Kd.N_drewN | apply Kd.N_drew)); first | exact HO_5.out | (subst_vars; exact HO_5.out)) (Kd.S_base ho0) hb); have n2_ := Aside0.mk (Kd.N_elder' (by (with_reducible repeat (first | apply Kd.N_alloc | apply Kd.N_drewN | apply Kd.N_drew)); first | exact HO242.out | (subst_vars; exact HO242.out)) (Kd.S_base ho0) hb); have n3_ := Aside0.mk (Kd.N_lower (Kd.N_mono (ok' := fun k_ => some k_ ≠ (.slice Ao9 t225.length co9 : Value).ownBlock ∧ some k_ ≠ (v231 : Value).ownBlock ∧ some k_ ≠ (.slice Ao65 y240.length co65 : Value).ownBlock) (Kd.S_N (Kd.S_bound ho0)) (fun k_ hk_ => ⟨(Kd.fresh' (Kd.N_lt (by (with_reducible repeat (first | apply Kd.N_alloc | apply Kd.N_drewN | apply Kd.N_drew)); first | exact HO_3.out | (subst_vars; exact HO_3.out))) k_ hk_.2.1), (Kd.fresh' (Kd.N_lt (by (with_reducible repeat (first | apply Kd.N_alloc | apply Kd.N_drewN | apply Kd.N_drew)); first | exact HO_5.out | (subst_vars; exact HO_5.out))) k_ hk_.2.1), (Kd.fresh' (Kd.N_lt (by (with_reducible repeat (first | apply Kd.N_alloc | apply Kd.N_drewN | apply Kd.N_drew)); first | exact HO242.out | (subst_vars; exact HO242.out))) k_ hk_.2.1)⟩)) (below_size (by repeat (first | (with_reducible first | exact HB.out | apply below_alloc | apply pw_below_drewN | apply below_drew1) | exact HB.out)))); have n4_ := Aside0.mk (below_step (by repeat (first | (with_reducible first | exact HB.out | apply below_alloc | apply pw_below_drewN | apply below_drew1) | exact HB.out)) hb); clear HO_3; clear HO_5; clear HO242; clear HB; have HO_3 := n0_; have HO_5 := n1_; have HO242 := n2_; have HO246 := n3_; have HB := n4_; clear n0_ n1_ n2_ n3_ n4_; (try clear hb); (try clear hb2); (try clear hk); (try clear hi); (try clear ho0)) | ((with_reducible refine gate_dst (N := 60) rfl ?_); (try (refine gate_guard (by rfl) ?_; dsimp only)); refine Kd.R_lit (Kd.int .i64) _ 3 ?hg (N := 60) ?hd (xs := ([1, 1] : List Int)) (inner := [.int .i64 1, .int .i64 1]) (ok := fun _ => True) (okp := fun _ => True) ?hr ?hp (fun _ hk => hk) trivial (Below.refl _ _) (Nat.le_refl _) (by simp) ?_; (case hd => rfl); (case hg => rfl); (case hr => first | (go_simp; done) | (go_simp; rfl)); (case hp => exact (Reps.one (show Kd.M (Kd.int .i64) _ _ _ 1 [.int .i64 1] from rfl) (Reps.one (show Kd.M (Kd.int .i64) _ _ _ 1 [.int .i64 1] from rfl) (Reps.none _ _)))); intro v248 w67 ho68 hb hg_ hnew_; clear hg_ hnew_; (first | rw [← Ny247.out] at ho68 | (simp only [Int.reduceToNat] at ho68; rw [← Ny247.out] at ho68)); have n0_ := Aside0.mk (Kd.N_elder' (by (with_reducible repeat (first | apply Kd.N_alloc | apply Kd.N_drewN | apply Kd.N_drew)); first | exact HO_3.out | (subst_vars; exact HO_3.out)) (Kd.R_base ho68) hb); have n1_ := Aside0.mk (Kd.N_elder' (by (with_reducible repeat (first | apply Kd.N_alloc | apply Kd.N_drewN | apply Kd.N_drew)); first | exact HO_5.out | (subst_vars; exact HO_5.out)) (Kd.R_base ho68) hb); have n2_ := Aside0.mk (Kd.N_elder' (by (with_reducible repeat (first | apply Kd.N_alloc | apply Kd.N_drewN | apply Kd.N_drew)); first | exact HO242.out | (subst_vars; exact HO242.out)) (Kd.R_base ho68) hb); have n3_ := Aside0.mk (Kd.N_elder' (by (with_reducible repeat (first | apply Kd.N_alloc | apply Kd.N_drewN | apply Kd.N_drew)); first | exact HO246.out | (subst_vars; exact HO246.out)) (Kd.R_base ho68) hb); have n4_ := Aside0.mk (Kd.R_lower ho68 (below_size (by repeat (first | (with_reducible first | exact HB.out | apply below_alloc | apply pw_below_drewN | apply below_drew1) | exact HB.out)))); have n5_ := Aside0.mk (below_step (by repeat (first | (with_reducible first | exact HB.out | apply below_alloc | apply pw_below_drewN | apply below_drew1) | exact HB.out)) hb); clear HO_3; clear HO_5; clear HO242; clear HO246; clear HB; have HO_3 := n0_; have HO_5 := n1_; have HO242 := n2_; have HO246 := n3_; have HO249 := n4_; have HB := n5_; clear n0_ n1_ n2_ n3_ n4_ n5_; clear hb ho68; obtain ⟨Ao69, co69, eo69⟩ := Kd.R_slice HO249.out; subst eo69) | ((with_reducible refine gate_dst (N := 61) rfl ?_); (try (refine gate_guard (by rfl) ?_; dsimp only)); refine Kd.N_lit (Kd.slice 3 (Kd.int .i64)) _ 23 ?hg (N' := 61) ?hd (xs := ([y247] : List (List Int))) (inner := [.slice Ao69 y247.length co69]) (ok := (fun k_ => some k_ ≠ (.slice Ao9 t225.length co9 : Value).ownBlock ∧ some k_ ≠ (v231 : Value).ownBlock ∧ some k_ ≠ (.slice Ao65 y240.length co65 : Value).ownBlock ∧ some k_ ≠ (v245 : Value).ownBlock)) (okp := (fun k_ => some k_ ≠ (.slice Ao9 t225.length co9 : Value).ownBlock ∧ some k_ ≠ (v231 : Value).ownBlock ∧ some k_ ≠ (.slice Ao65 y240.length co65 : Value).ownBlock ∧ some k_ ≠ (v245 : Value).ownBlock)) ?hr ?hp (fun _ hk => hk) ((show ∀ k_, w67.heap.size ≤ k_ → (fun k_ => some k_ ≠ (.slice Ao9 t225.length co9 : Value).ownBlock ∧ some k_ ≠ (v231 : Value).ownBlock ∧ some k_ ≠ (.slice Ao65 y240.length co65 : Value).ownBlock ∧ some k_ ≠ (v245 : Value).ownBlock) k_ from fun k_ hk => ⟨Kd.fresh' (Kd.N_lt (by (with_reducible repeat (first | apply Kd.N_alloc | apply Kd.N_drewN | apply Kd.N_drew)); first | exact HO_3.out | (subst_vars; exact HO_3.out))) k_ hk, Kd.fresh' (Kd.N_lt (by (with_reducible repeat (first | apply Kd.N_alloc | apply Kd.N_drewN | apply Kd.N_drew)); first | exact HO_5.out | (subst_vars; exact HO_5.out))) k_ hk, Kd.fresh' (Kd.N_lt (by (with_reducible repeat (first | apply Kd.N_alloc | apply Kd.N_drewN | apply Kd.N_drew)); first | exact HO242.out | (subst_vars; exact HO242.out))) k_ hk, Kd.fresh' (Kd.N_lt (by (with_reducible repeat (first | apply Kd.N_alloc | apply Kd.N_drewN | apply Kd.N_drew)); first | exact HO246.out | (subst_vars; exact HO246.out))) k_ hk⟩) _ (Nat.le_refl _)) (Below.refl _ _) (Nat.le_refl _) (by simp) ?_; (case hd => rfl); (case hg => rfl); (case hr => first | (go_simp; done) | (go_simp; rfl)); (case hp => exact (Reps.one (show Kd.FK (Kd.slice 3 (Kd.int .i64)) _ _ y247 [.slice Ao69 y247.length co69] from (Kd.FK_slice_mk (Kd.R_reads' (Kd.R_mono (ok' := (fun k_ => some k_ ≠ (.slice Ao9 t225.length co9 : Value).ownBlock ∧ some k_ ≠ (v231 : Value).ownBlock ∧ some k_ ≠ (.slice Ao65 y240.length co65 : Value).ownBlock ∧ some k_ ≠ (v245 : Value).ownBlock)) (Kd.R_apart' (Kd.R_apart' (Kd.R_apart' (Kd.R_apart' (HO249.out) (Kd.N_typed HO_3.out) (by decide)) (Kd.N_typed HO_5.out) (by decide)) (Kd.N_typed HO242.out) (by decide)) (Kd.N_typed HO246.out) (by decide)) (fun k_ hk => ⟨hk.1.1.1.2, ⟨hk.1.1.2, ⟨hk.1.2, hk.2⟩⟩⟩))).2.1 (Kd.R_F (Kd.R_mono (ok' := (fun k_ => some k_ ≠ (.slice Ao9 t225.length co9 : Value).ownBlock ∧ some k_ ≠ (v231 : Value).ownBlock ∧ some k_ ≠ (.slice Ao65 y240.length co65 : Value).ownBlock ∧ some k_ ≠ (v245 : Value).ownBlock)) (Kd.R_apart' (Kd.R_apart' (Kd.R_apart' (Kd.R_apart' (HO249.out) (Kd.N_typed HO_3.out) (by decide)) (Kd.N_typed HO_5.out) (by decide)) (Kd.N_typed HO242.out) (by decide)) (Kd.N_typed HO246.out) (by decide)) (fun k_ hk => ⟨hk.1.1.1.2, ⟨hk.1.1.2, ⟨hk.1.2, hk.2⟩⟩⟩))))) (Reps.none _ _))); intro v251 w70 ho71 hb hg_ hnew_; clear hg_ hnew_; (first | rw [← Ny250.out] at ho71 | (simp only [Int.reduceToNat] at ho71; rw [← Ny250.out] at ho71)); have n0_ := Aside0.mk (Kd.N_elder' (by (with_reducible repeat (first | apply Kd.N_alloc | apply Kd.N_drewN | apply Kd.N_drew)); first | exact HO_3.out | (subst_vars; exact HO_3.out)) (Kd.N_base ho71) hb); have n1_ := Aside0.mk (Kd.N_elder' (by (with_reducible repeat (first | apply Kd.N_alloc | apply Kd.N_drewN | apply Kd.N_drew)); first | exact HO_5.out | (subst_vars; exact HO_5.out)) (Kd.N_base ho71) hb); have n2_ := Aside0.mk (Kd.N_elder' (by (with_reducible repeat (first | apply Kd.N_alloc | apply Kd.N_drewN | apply Kd.N_drew)); first | exact HO242.out | (subst_vars; exact HO242.out)) (Kd.N_base ho71) hb); have n3_ := Aside0.mk (Kd.N_elder' (by (with_reducible repeat (first | apply Kd.N_alloc | apply Kd.N_drewN | apply Kd.N_drew)); first | exact HO246.out | (subst_vars; exact HO246.out)) (Kd.N_base ho71) hb); have n4_ := Aside0.mk (Kd.N_lower ho71 (below_size (by repeat (first | (with_reducible first | exact HB.out | apply below_alloc | apply pw_below_drewN | apply below_drew1) | exact HB.out)))); have n5_ := Aside0.mk (below_step (by repeat (first | (with_reducible first | exact HB.out | apply below_alloc | apply pw_below_drewN | apply below_drew1) | exact HB.out)) hb); clear HO_3; clear HO_5; clear HO242; clear HO246; clear HB; clear HO249; have HO_3 := n0_; have HO_5 := n1_; have HO242 := n2_; have HO246 := n3_; have HO252 := n4_; have HB := n5_; clear n0_ n1_ n2_ n3_ n4_ n5_; clear hb ho71; obtain ⟨Ao72, co72, eo72⟩ := Kd.N_slice HO246.out; subst eo72; obtain ⟨Ao73, co73, eo73⟩ := Kd.N_slice HO252.out; subst eo73) | (go_at_call 31; (with_reducible refine (laws_sameRows.calls kj6 _ _ t243 _ _ y250 t253 _ ?side1 ?side2 ?side3 ?side4 A59.out).mono ?_); (case side1 => repeat (first | exact (Kd.N_reads' HO246.out).2.2 | (with_reducible refine Kd.C_alloc ?_ _) | (with_reducible refine Kd.C_drewN ?_ _) | (with_reducible refine Kd.C_drew ?_))); (case side2 => exact (Kd.N_reads' HO246.out).2.1); (case side3 => repeat (first | exact (Kd.N_reads' HO252.out).2.2 | (with_reducible refine Kd.C_alloc ?_ _) | (with_reducible refine Kd.C_drewN ?_ _) | (with_reducible refine Kd.C_drew ?_))); (case side4 => exact (Kd.N_reads' HO252.out).2.1); rintro e w' ⟨rfl, ⟨nd, rfl⟩⟩))
              go_ret
              exact ⟨by first | rfl | (simp [errW_none, errW_some] <;> rfl) | (simp [*, errW_none, errW_some] <;> rfl), by repeat (first | (with_reducible first | exact HB.out | apply below_alloc | apply pw_below_drewN | apply below_drew1) | exact HB.out)⟩
            · replace c58 := Bool.eq_false_iff.mpr c58
              subst c58
              have H1 : (some false) = some r := by rw [if_neg (show ¬ (false = true) by decide)] at H; exact H
              clear H
              have H := H1
              clear H1
              exact absurd (Option.some.inj H) (by rw [hr_]; decide)

/-- THE ONE PURE STATEMENT of laws_FnBasis: yours. -/
def laws_FnBasis.Pure : Prop := ∀ (l0 : List Int), l0.length ≤ maxLen → l0.length * 1 ≤ 140737488351232 → (∀ x ∈ l0, (Lit.int .u8 x).wf = true) → ∃ k, laws_FnBasis.f k l0 = some true
theorem laws_FnBasis.walk (P : laws_FnBasis.Pure) (a0 : Option Addr) (len0 cap0 : Nat) (z0 : List Int) (w : World) (w0 : (a0 = none ∧ len0 = 0 ∧ cap0 = 0 ∧ z0 = []) ∨ ∃ x, a0 = some x ∧ len0 ≤ cap0 ∧ cap0 ≤ maxLen ∧ z0.length = cap0 ∧ (∀ i, i < z0.length → w.cell? (x.add i) = some (.int .u8 (z0.getD i 0))) ∧ ∀ n ∈ z0, (Lit.int .u8 n).wf = true) (y0 : len0 * 1 ≤ 140737488351232) :
    Calls Try.prog 8 #[.slice a0 len0 cap0] w fun e w' => e = .returned (.bool true) ∧ Below w.heap.size w w' := by
  obtain ⟨l0, rfl, hr0, hm0, hw0, hc0⟩ := ReadsInt.ofRowC w0
  obtain ⟨k, h⟩ := P l0 hm0 y0 hw0
  refine (laws_FnBasis.calls k _ _ l0 true w (Kd.C_of_reads (d := (0 : Int)) (h1 := fun _ => rfl) hr0) hc0 rfl h).mono ?_
  rintro e w' ⟨rfl, hd⟩
  exact ⟨rfl, hd⟩

end Go.Proofs.Ytpphjbogijjnpaa.PFnBasis
