-- Written by a turned copy of the print (see the notes of this repo): plain functions and their walks. Lean checks it.
import Derived.Test.YtoggbgkpeigfmaaPFnScoredx0
import Derived.Test.YtoggbgkpeigfmaaPFnScoredx3
import Derived.Test.YtoggbgkpeigfmaaPFnScoredx6
namespace Go.Proofs.Ytoggbgkpeigfmaa.PFnScored
open Go.RowKit Go.Proofs.YtoggbgkpeigfmaaW.PrintWords Go.Proofs.YtoggbgkpeigfmaaW.PrintLast Go.Proofs.YtoggbgkpeigfmaaW.PrintMore
attribute [local go_sem] max2_int min2_int max_two min_two max_three min_three max_four min_four   -- for this text's walks alone
set_option linter.unusedVariables false
set_option linter.unusedSimpArgs false

/-! ### spec_Likeliest: function 12 -/
mutual
def spec_Likeliest.j0 : Nat → Int → Int → Int → List Int → Int → Bool → Option (List Int × Int × Bool)
 | 0, _, _, _, _, _, _ => none
 | k + 1, x0, x1, x2, x3, x11, x40 => if x40 = true then (some ((([] : List Int)), 0, false)) else (if 0 ≤ (IntKind.u64.wrap (x0)) then (if 0 ≤ (shl .i64 1 (IntKind.u64.wrap (x0))) then (if (shl .i64 1 (IntKind.u64.wrap (x0)) : Int).toNat ≤ 7036874417766 then (spec_Likeliest.l0 k x0 x1 x2 x3 x11 (List.replicate (shl .i64 1 (IntKind.u64.wrap (x0)) : Int).toNat z54) 1) else (none)) else (none)) else (none))
def spec_Likeliest.l0 : Nat → Int → Int → Int → List Int → Int → List (S54) → Int → Option (List Int × Int × Bool)
 | 0, _, _, _, _, _, _, _ => none
 | k + 1, x0, x1, x2, x3, x11, x12, x13 => if x13 < (x12.length : Int) then (if 0 ≤ x13 then (spec_Likeliest.l0 k x0 x1 x2 x3 x11 (x12.set (x13 : Int).toNat (⟨true, (rd_T54 x12 x13).f1, (rd_T54 x12 x13).f2⟩ : S54)) (wrap64 (x13 + 1))) else (none)) else (spec_Likeliest.l1 k x0 x1 x2 x3 x11 x12 0)
def spec_Likeliest.l1 : Nat → Int → Int → Int → List Int → Int → List (S54) → Int → Option (List Int × Int × Bool)
 | 0, _, _, _, _, _, _, _ => none
 | k + 1, x0, x1, x2, x3, x11, x12, x14 => if x14 < (wrap64 (x11 + x0)) then (if 0 ≤ (wrap64 (2 * x14)) then (if (wrap64 (2 * x14)) < (x3.length : Int) then (if 0 ≤ (wrap64 ((wrap64 (2 * x14)) + 1)) then (if (wrap64 ((wrap64 (2 * x14)) + 1)) < (x3.length : Int) then ((spec_l15Step.f k x0 x1 x2 x12 (rd x3 (wrap64 (2 * x14))) (rd x3 (wrap64 ((wrap64 (2 * x14)) + 1))) (decide (x14 ≥ x11))).bind fun t148 => (spec_Likeliest.l1 k x0 x1 x2 x3 x11 t148 (wrap64 (x14 + 1)))) else (none)) else (none)) else (none)) else (none)) else (if 0 < (x12.length : Int) then (some ((rd_T54 x12 0).f2, (rd_T54 x12 0).f1, true)) else (none))
end
def spec_Likeliest.f (k : Nat) (a0 : Int) (a1 : Int) (a2 : Int) (l3 : List Int) : Option (List Int × Int × Bool) := (spec_l15Coder.f a0 a1 a2).bind fun t136 => (if t136 = true then (if ((l3.length : Int) % 2) = 0 then ((spec_l1In.f (wrap64 ((wrap64 ((l3.length : Int) / 2)) - a0)) 0 120).bind fun t137 => (if t137 = true then ((spec_l9Wide.f k l3 100).bind fun t138 => (spec_Likeliest.j0 k a0 a1 a2 l3 (wrap64 ((wrap64 ((l3.length : Int) / 2)) - a0)) (!t138))) else (spec_Likeliest.j0 k a0 a1 a2 l3 (wrap64 ((wrap64 ((l3.length : Int) / 2)) - a0)) true))) else (spec_Likeliest.j0 k a0 a1 a2 l3 (wrap64 ((wrap64 ((l3.length : Int) / 2)) - a0)) true)) else (spec_Likeliest.j0 k a0 a1 a2 l3 (wrap64 ((wrap64 ((l3.length : Int) / 2)) - a0)) true))
theorem spec_Likeliest.mono_l : ∀ k, (∀ y0 y1 y2 y3 y4 y5, LeO (spec_Likeliest.j0 k y0 y1 y2 y3 y4 y5) (spec_Likeliest.j0 (k + 1) y0 y1 y2 y3 y4 y5)) ∧ (∀ y0 y1 y2 y3 y4 y5 y6, LeO (spec_Likeliest.l0 k y0 y1 y2 y3 y4 y5 y6) (spec_Likeliest.l0 (k + 1) y0 y1 y2 y3 y4 y5 y6)) ∧ (∀ y0 y1 y2 y3 y4 y5 y6, LeO (spec_Likeliest.l1 k y0 y1 y2 y3 y4 y5 y6) (spec_Likeliest.l1 (k + 1) y0 y1 y2 y3 y4 y5 y6))
 | 0 => ⟨fun _ _ _ _ _ _ r h => by simp [spec_Likeliest.j0] at h, fun _ _ _ _ _ _ _ r h => by simp [spec_Likeliest.l0] at h, fun _ _ _ _ _ _ _ r h => by simp [spec_Likeliest.l1] at h⟩
 | k + 1 => by
  obtain ⟨ih0, ih1, ih2⟩ := spec_Likeliest.mono_l k
  refine ⟨?_, ?_, ?_⟩
  ·intro y0 y1 y2 y3 y4 y5
   unfold spec_Likeliest.j0
   repeat' first
   | (with_reducible exact ih0 _ _ _ _ _ _)
   | (with_reducible exact ih1 _ _ _ _ _ _ _)
   | (with_reducible exact ih2 _ _ _ _ _ _ _)
   | (with_reducible exact spec_l15Step.mono _ _ _ _ _ _ _ _)
   | (with_reducible exact spec_l9Wide.mono _ _ _)
   | (with_reducible exact LeO.refl _)
   | (with_reducible exact LeO.none _)
   | (with_reducible refine LeO.ite ?_ ?_)
   | (with_reducible refine LeO.bind ?_ (fun _ => ?_))
   | exact ih0 _ _ _ _ _ _
   | exact ih1 _ _ _ _ _ _ _
   | exact ih2 _ _ _ _ _ _ _
   | exact spec_l15Step.mono _ _ _ _ _ _ _ _
   | exact spec_l9Wide.mono _ _ _
   | exact LeO.none _
   | refine LeO.ite ?_ ?_
   | refine LeO.bind ?_ (fun _ => ?_)
  ·intro y0 y1 y2 y3 y4 y5 y6
   unfold spec_Likeliest.l0
   repeat' first
   | (with_reducible exact ih0 _ _ _ _ _ _)
   | (with_reducible exact ih1 _ _ _ _ _ _ _)
   | (with_reducible exact ih2 _ _ _ _ _ _ _)
   | (with_reducible exact spec_l15Step.mono _ _ _ _ _ _ _ _)
   | (with_reducible exact spec_l9Wide.mono _ _ _)
   | (with_reducible exact LeO.refl _)
   | (with_reducible exact LeO.none _)
   | (with_reducible refine LeO.ite ?_ ?_)
   | (with_reducible refine LeO.bind ?_ (fun _ => ?_))
   | exact ih0 _ _ _ _ _ _
   | exact ih1 _ _ _ _ _ _ _
   | exact ih2 _ _ _ _ _ _ _
   | exact spec_l15Step.mono _ _ _ _ _ _ _ _
   | exact spec_l9Wide.mono _ _ _
   | exact LeO.none _
   | refine LeO.ite ?_ ?_
   | refine LeO.bind ?_ (fun _ => ?_)
  ·intro y0 y1 y2 y3 y4 y5 y6
   unfold spec_Likeliest.l1
   repeat' first
   | (with_reducible exact ih0 _ _ _ _ _ _)
   | (with_reducible exact ih1 _ _ _ _ _ _ _)
   | (with_reducible exact ih2 _ _ _ _ _ _ _)
   | (with_reducible exact spec_l15Step.mono _ _ _ _ _ _ _ _)
   | (with_reducible exact spec_l9Wide.mono _ _ _)
   | (with_reducible exact LeO.refl _)
   | (with_reducible exact LeO.none _)
   | (with_reducible refine LeO.ite ?_ ?_)
   | (with_reducible refine LeO.bind ?_ (fun _ => ?_))
   | exact ih0 _ _ _ _ _ _
   | exact ih1 _ _ _ _ _ _ _
   | exact ih2 _ _ _ _ _ _ _
   | exact spec_l15Step.mono _ _ _ _ _ _ _ _
   | exact spec_l9Wide.mono _ _ _
   | exact LeO.none _
   | refine LeO.ite ?_ ?_
   | refine LeO.bind ?_ (fun _ => ?_)
theorem spec_Likeliest.mono : ∀ a0 a1 a2 a3 k, LeO (spec_Likeliest.f k a0 a1 a2 a3) (spec_Likeliest.f (k + 1) a0 a1 a2 a3) := by
 intro a0 a1 a2 a3 k
 obtain ⟨ih0, ih1, ih2⟩ := spec_Likeliest.mono_l k
 unfold spec_Likeliest.f
 repeat' first
  | (with_reducible exact ih0 _ _ _ _ _ _)
  | (with_reducible exact ih1 _ _ _ _ _ _ _)
  | (with_reducible exact ih2 _ _ _ _ _ _ _)
  | (with_reducible exact spec_l15Step.mono _ _ _ _ _ _ _ _)
  | (with_reducible exact spec_l9Wide.mono _ _ _)
  | (with_reducible exact LeO.refl _)
  | (with_reducible exact LeO.none _)
  | (with_reducible refine LeO.ite ?_ ?_)
  | (with_reducible refine LeO.bind ?_ (fun _ => ?_))
  | exact ih0 _ _ _ _ _ _
  | exact ih1 _ _ _ _ _ _ _
  | exact ih2 _ _ _ _ _ _ _
  | exact spec_l15Step.mono _ _ _ _ _ _ _ _
  | exact spec_l9Wide.mono _ _ _
  | exact LeO.none _
  | refine LeO.ite ?_ ?_
  | refine LeO.bind ?_ (fun _ => ?_)
def spec_Likeliest.T12 : Bool × List (List Nat × List Nat) := (true, [([], []), ([], []), ([], []), ([], []), ([], []), ([], []), ([5], [5]), ([4, 6], [4, 6]), ([7], [7]), ([], []), ([], []), ([10], [10]), ([11], [11]), ([9, 12], [9, 12]), ([13], [13]), ([], []), ([], []), ([15, 16], [15, 16]), ([0, 1, 2, 3, 8, 14, 17], [0, 1, 2, 3, 8, 14, 17]), ([18, 18, 0, 1, 2, 3, 4, 5, 6, 7, 8, 9, 10, 11, 12, 13, 14, 15, 16, 17, 18], [3, 18])])
def spec_Likeliest.B12 : List Nat := [0, 0, 0, 0, 0, 0, 32, 112, 240, 0, 0, 1024, 3072, 7680, 15872, 0, 0, 98304, 262143, 524287]
theorem spec_Likeliest.tab12 : rtab .any (opsOf Try.f12 12) = spec_Likeliest.T12 := by kernel_rfl
theorem spec_Likeliest.bits12 : waitsOk spec_Likeliest.T12.2 spec_Likeliest.B12 = true := by kernel_rfl
def spec_Likeliest.T13 : Bool × List (List Nat × List Nat) := (true, [([], []), ([0], [0]), ([1], [1]), ([2], [2]), ([], []), ([4], [4]), ([5], [5]), ([6], [6]), ([3, 0, 1, 2, 3], [3]), ([7, 8, 0, 1, 2, 3, 4, 5, 6, 7, 8], [7]), ([9, 0, 1, 2, 3, 4, 5, 6, 7, 8, 9], [])])
def spec_Likeliest.B13 : List Nat := [0, 1, 3, 7, 0, 16, 48, 112, 15, 511, 1023]
theorem spec_Likeliest.tab13 : rtab .any (opsOf Try.f12 13) = spec_Likeliest.T13 := by kernel_rfl
theorem spec_Likeliest.bits13 : waitsOk spec_Likeliest.T13.2 spec_Likeliest.B13 = true := by kernel_rfl
set_option maxHeartbeats 8000000 in
set_option maxRecDepth 100000 in
theorem spec_Likeliest.calls (k : Nat) (a0 : Int) (a1 : Int) (a2 : Int) (A3 : Option Addr) (c3 : Nat) (l3 : List Int) (r1 : List Int) (r2 : Int) (r3 : Bool) (w : World) (hr3 : Kd.C (Kd.int .i64) w A3 l3.length l3) (hc3 : l3.length ≤ c3) (h : spec_Likeliest.f k a0 a1 a2 l3 = some (r1, r2, r3)) :
 Calls Try.prog 12 #[.int .i64 a0, .int .i64 a1, .int .i64 a2, .slice A3 l3.length c3] w fun e w' => ∃ v0_ : Value, e = .returned (.tuple #[v0_, .int .i64 r2, .bool r3]) ∧ Kd.R (Kd.int .i64) 3 w' w.heap.size (fun _ => True) v0_ r1 ∧ Below w.heap.size w w' := by
 have HR3 := Aside0.mk hr3
 have HC3 := Aside0.mk hc3
 clear hr3 hc3
 have HB := Aside0.mk (Below.refl w.heap.size w)
 have H : ((spec_l15Coder.f a0 a1 a2).bind fun t136 => (if t136 = true then (if ((l3.length : Int) % 2) = 0 then ((spec_l1In.f (wrap64 ((wrap64 ((l3.length : Int) / 2)) - a0)) 0 120).bind fun t137 => (if t137 = true then ((spec_l9Wide.f k l3 100).bind fun t138 => (spec_Likeliest.j0 k a0 a1 a2 l3 (wrap64 ((wrap64 ((l3.length : Int) / 2)) - a0)) (!t138))) else (spec_Likeliest.j0 k a0 a1 a2 l3 (wrap64 ((wrap64 ((l3.length : Int) / 2)) - a0)) true))) else (spec_Likeliest.j0 k a0 a1 a2 l3 (wrap64 ((wrap64 ((l3.length : Int) / 2)) - a0)) true)) else (spec_Likeliest.j0 k a0 a1 a2 l3 (wrap64 ((wrap64 ((l3.length : Int) / 2)) - a0)) true))) = some (r1, r2, r3) := h
 clear h
 have HC5 := Aside0.mk H
 clear H
 go_enter Try.func12, Try.ntmps12
 go_upto_region 2 with (fail)
 go_cut [40] (fun v40 wc => ∃ (kq : Nat) (x40_4 : Bool), v40 = .bool x40_4 ∧ Aside0 (spec_Likeliest.j0 kq a0 a1 a2 l3 (wrap64 ((wrap64 ((l3.length : Int) / 2)) - a0)) x40_4 = some (r1, r2, r3)) ∧ Aside0 (kq ≤ k) ∧ Aside0 (Below w.heap.size w wc))
 case first =>
  have H := HC5.out
  clear HC5
  replace H := Option.bind_eq_some_iff.mp H
  obtain ⟨t136, A60, H⟩ := H
  replace H : (if t136 = true then (if ((l3.length : Int) % 2) = 0 then ((spec_l1In.f (wrap64 ((wrap64 ((l3.length : Int) / 2)) - a0)) 0 120).bind fun t137 => (if t137 = true then ((spec_l9Wide.f k l3 100).bind fun t138 => (spec_Likeliest.j0 k a0 a1 a2 l3 (wrap64 ((wrap64 ((l3.length : Int) / 2)) - a0)) (!t138))) else (spec_Likeliest.j0 k a0 a1 a2 l3 (wrap64 ((wrap64 ((l3.length : Int) / 2)) - a0)) true))) else (spec_Likeliest.j0 k a0 a1 a2 l3 (wrap64 ((wrap64 ((l3.length : Int) / 2)) - a0)) true)) else (spec_Likeliest.j0 k a0 a1 a2 l3 (wrap64 ((wrap64 ((l3.length : Int) / 2)) - a0)) true)) = some (r1, r2, r3) := H
  have A6 := Aside0.mk A60
  clear A60
  by_cases c7 : t136 = true
  case neg =>
   replace c7 := Bool.eq_false_iff.mpr c7
   subst c7
   have H1 : (spec_Likeliest.j0 k a0 a1 a2 l3 (wrap64 ((wrap64 ((l3.length : Int) / 2)) - a0)) true) = some (r1, r2, r3) := by rw [if_neg (show ¬ (false = true) by decide)] at H; exact H
   clear H
   have H := H1
   clear H1
   have H' := Aside0.mk H
   clear H
   go_wp2_with (first | ((with_reducible refine gate_callee (f := 28) rfl ?_); refine goesL_ (some 23) rfl rfl Try.func28 (by kernel_rfl) rfl #[.int .i64 a0, .int .i64 a1, .int .i64 a2] rfl (by (try simp only [List.map_toArray, List.map_cons, List.map_nil]); first | done | rfl | (simp only [List.length_drop, List.length_take]; rfl)) ?_; (with_reducible refine (spec_l15Coder.calls a0 a1 a2 false _ A6.out).mono ?_); rintro e w' ⟨rfl, ⟨nd, rfl⟩⟩; refine ⟨_, rfl, ?_⟩))
   go_meet
   case rel => exact ⟨_, (true), (by first | rfl | (simp; done) | (simp [*]; done)), H', ⟨by first | omega | exact Nat.le_refl _⟩, ⟨by repeat (first | (with_reducible first | exact HB.out | apply zBa | apply zBn | apply zBd) | exact HB.out)⟩⟩
  subst c7
  have H1 : (if ((l3.length : Int) % 2) = 0 then ((spec_l1In.f (wrap64 ((wrap64 ((l3.length : Int) / 2)) - a0)) 0 120).bind fun t137 => (if t137 = true then ((spec_l9Wide.f k l3 100).bind fun t138 => (spec_Likeliest.j0 k a0 a1 a2 l3 (wrap64 ((wrap64 ((l3.length : Int) / 2)) - a0)) (!t138))) else (spec_Likeliest.j0 k a0 a1 a2 l3 (wrap64 ((wrap64 ((l3.length : Int) / 2)) - a0)) true))) else (spec_Likeliest.j0 k a0 a1 a2 l3 (wrap64 ((wrap64 ((l3.length : Int) / 2)) - a0)) true)) = some (r1, r2, r3) := by rw [if_pos rfl] at H; exact H
  clear H
  have H := H1
  clear H1
  by_cases c8 : ((l3.length : Int) % 2) = 0
  case neg =>
   rw [if_neg c8] at H
   have c8b0 : (((l3.length : Int) % 2) == 0) = false := beq_eq_false_iff_ne.mpr c8
   have c8b1 : (((l3.length : Int) % 2) != 0) = true := bne_iff_ne.mpr c8
   (first | rw [c8b0] | (simp only [i64_w, i32_w]; rw [c8b0]) | skip)
   have H' := Aside0.mk H
   clear H
   go_wp2_with (first | ((with_reducible refine gate_callee (f := 28) rfl ?_); refine goesL_ (some 23) rfl rfl Try.func28 (by kernel_rfl) rfl #[.int .i64 a0, .int .i64 a1, .int .i64 a2] rfl (by (try simp only [List.map_toArray, List.map_cons, List.map_nil]); first | done | rfl | (simp only [List.length_drop, List.length_take]; rfl)) ?_; (with_reducible refine (spec_l15Coder.calls a0 a1 a2 true _ A6.out).mono ?_); rintro e w' ⟨rfl, ⟨nd, rfl⟩⟩; refine ⟨_, rfl, ?_⟩))
   go_meet
   case rel => exact ⟨_, (true), (by first | rfl | (simp; done) | (simp [*]; done)), H', ⟨by first | omega | exact Nat.le_refl _⟩, ⟨by repeat (first | (with_reducible first | exact HB.out | apply zBa | apply zBn | apply zBd) | exact HB.out)⟩⟩
  rw [if_pos c8] at H
  have c8b0 : (((l3.length : Int) % 2) == 0) = true := beq_iff_eq.mpr c8
  have c8b1 : (((l3.length : Int) % 2) != 0) = false := bne_eq_false_iff_eq.mpr c8
  clear c8
  (first | rw [c8b0] | (simp only [i64_w, i32_w]; rw [c8b0]) | skip)
  replace H := Option.bind_eq_some_iff.mp H
  obtain ⟨t137, A90, H⟩ := H
  replace H : (if t137 = true then ((spec_l9Wide.f k l3 100).bind fun t138 => (spec_Likeliest.j0 k a0 a1 a2 l3 (wrap64 ((wrap64 ((l3.length : Int) / 2)) - a0)) (!t138))) else (spec_Likeliest.j0 k a0 a1 a2 l3 (wrap64 ((wrap64 ((l3.length : Int) / 2)) - a0)) true)) = some (r1, r2, r3) := H
  have A9 := Aside0.mk A90
  clear A90
  by_cases c10 : t137 = true
  case neg =>
   replace c10 := Bool.eq_false_iff.mpr c10
   subst c10
   have H1 : (spec_Likeliest.j0 k a0 a1 a2 l3 (wrap64 ((wrap64 ((l3.length : Int) / 2)) - a0)) true) = some (r1, r2, r3) := by rw [if_neg (show ¬ (false = true) by decide)] at H; exact H
   clear H
   have H := H1
   clear H1
   have H' := Aside0.mk H
   clear H
   go_wp2_with (first | ((with_reducible refine gate_callee (f := 28) rfl ?_); refine goesL_ (some 23) rfl rfl Try.func28 (by kernel_rfl) rfl #[.int .i64 a0, .int .i64 a1, .int .i64 a2] rfl (by (try simp only [List.map_toArray, List.map_cons, List.map_nil]); first | done | rfl | (simp only [List.length_drop, List.length_take]; rfl)) ?_; (with_reducible refine (spec_l15Coder.calls a0 a1 a2 true _ A6.out).mono ?_); rintro e w' ⟨rfl, ⟨nd, rfl⟩⟩; refine ⟨_, rfl, ?_⟩) | (go_at_call 29; (with_reducible refine (spec_l1In.calls (wrap64 ((wrap64 ((l3.length : Int) / 2)) - a0)) 0 120 false _ A9.out).mono ?_); rintro e w' ⟨rfl, ⟨nd, rfl⟩⟩))
   go_meet
   case rel => exact ⟨_, (true), (by first | rfl | (simp; done) | (simp [*]; done)), H', ⟨by first | omega | exact Nat.le_refl _⟩, ⟨by repeat (first | (with_reducible first | exact HB.out | apply zBa | apply zBn | apply zBd) | exact HB.out)⟩⟩
  subst c10
  have H1 : ((spec_l9Wide.f k l3 100).bind fun t138 => (spec_Likeliest.j0 k a0 a1 a2 l3 (wrap64 ((wrap64 ((l3.length : Int) / 2)) - a0)) (!t138))) = some (r1, r2, r3) := by rw [if_pos rfl] at H; exact H
  clear H
  have H := H1
  clear H1
  replace H := Option.bind_eq_some_iff.mp H
  obtain ⟨t138, A110, H⟩ := H
  replace H : (spec_Likeliest.j0 k a0 a1 a2 l3 (wrap64 ((wrap64 ((l3.length : Int) / 2)) - a0)) (!t138)) = some (r1, r2, r3) := H
  have A11 := Aside0.mk A110
  clear A110
  have H' := Aside0.mk H
  clear H
  go_wp2_with (first | ((with_reducible refine gate_callee (f := 28) rfl ?_); refine goesL_ (some 23) rfl rfl Try.func28 (by kernel_rfl) rfl #[.int .i64 a0, .int .i64 a1, .int .i64 a2] rfl (by (try simp only [List.map_toArray, List.map_cons, List.map_nil]); first | done | rfl | (simp only [List.length_drop, List.length_take]; rfl)) ?_; (with_reducible refine (spec_l15Coder.calls a0 a1 a2 true _ A6.out).mono ?_); rintro e w' ⟨rfl, ⟨nd, rfl⟩⟩; refine ⟨_, rfl, ?_⟩) | (go_at_call 29; (with_reducible refine (spec_l1In.calls (wrap64 ((wrap64 ((l3.length : Int) / 2)) - a0)) 0 120 true _ A9.out).mono ?_); rintro e w' ⟨rfl, ⟨nd, rfl⟩⟩) | (go_at_call 30; (with_reducible refine (spec_l9Wide.calls k _ _ l3 100 t138 _ ?side1 ?side2 A11.out).mono ?_); (case side1 => repeat (first | exact (Kd.C_below HR3.out (by repeat (first | (with_reducible first | exact HB.out | apply zBa | apply zBn | apply zBd) | exact HB.out))) | (with_reducible first | refine zCa ?_ _ | refine zCn ?_ _ | refine zCd ?_))); (case side2 => exact HC3.out); rintro e w' ⟨rfl, ⟨nd, rfl⟩⟩))
  go_meet
  case rel => exact ⟨_, (!t138), (by first | rfl | (simp; done) | (simp [*]; done)), H', ⟨by first | omega | exact Nat.le_refl _⟩, ⟨by repeat (first | (with_reducible first | exact HB.out | apply zBa | apply zBn | apply zBd) | exact HB.out)⟩⟩
 case rest =>
  clear HC5
  try clear c1
  try clear c2
  try clear p2
  try clear c3
  try clear p6
  try clear c7
  try clear c8
  try clear c8b0
  try clear c8b1
  try clear c10
  obtain ⟨kq, x40_4, rfl, HA, HJ4, HB⟩ := hcut
  cases kq with
  | zero => exact absurd HA.out (by simp [spec_Likeliest.j0])
  | succ kj4 =>
   have H := HA.out
   clear HA
   simp only [spec_Likeliest.j0] at H
   by_cases c12 : x40_4 = true
   case pos =>
    subst c12
    have H1 : (some ((([] : List Int)), 0, false)) = some (r1, r2, r3) := by rw [if_pos rfl] at H; exact H
    clear H
    have H := H1
    clear H1
    obtain ⟨y139, hy139⟩ : ∃ y_ : List Int, y_ = (([] : List Int)) := ⟨_, rfl⟩
    replace H : (some (y139, 0, false)) = some (r1, r2, r3) := by first | (rw [hy139]; with_reducible exact H) | (have H2_ := (Option.bind_some _ _).symm.trans H; rw [hy139]; with_reducible exact H2_) | (have H2_ := (Option.bind_some _ _).symm.trans H; with_reducible exact H2_) | with_reducible exact H | (rw [hy139]; exact H) | exact H
    have Ny139 := Aside0.mk hy139
    clear hy139
    simp only [Option.some.injEq, Prod.mk.injEq] at H
    obtain ⟨rfl, rfl, rfl⟩ := H
    go_wp2_with (first | ((with_reducible refine gate_dst (N := 41) rfl ?_); (try (refine gate_guard (by rfl) ?_; dsimp only)); refine Kd.R_lit (Kd.int .i64) _ 3 ?hg (N := 41) ?hd (xs := ([] : List Int)) (inner := []) (ok := fun _ => True) (okp := fun _ => True) ?hr ?hp (fun _ hk => hk) trivial (Below.refl _ _) (Nat.le_refl _) (by simp) ?_; (case hd => rfl); (case hg => rfl); (case hr => first | (go_simp; done) | (go_simp; rfl)); (case hp => exact (Reps.none _ _)); intro v140 w13 ho14 hb hg_ hnew_; clear hg_ hnew_; (first | rw [← Ny139.out] at ho14 | (simp only [Int.reduceToNat] at ho14; rw [← Ny139.out] at ho14)); have n0_ := Aside0.mk (Kd.R_lower ho14 (below_size (by repeat (first | (with_reducible first | exact HB.out | apply zBa | apply zBn | apply zBd) | exact HB.out)))); have n1_ := Aside0.mk (below_step (by repeat (first | (with_reducible first | exact HB.out | apply zBa | apply zBn | apply zBd) | exact HB.out)) hb); clear HB; have HO141 := n0_; have HB := n1_; clear n0_ n1_; clear hb ho14))
    go_ret3
    exact ⟨_, by first | rfl | (simp [errW_none, errW_some] <;> rfl) | (simp [*, errW_none, errW_some] <;> rfl), by (with_reducible repeat (first | apply zRa | apply zRn | apply zRd)); first | exact HO141.out | (subst_vars; exact HO141.out), by repeat (first | (with_reducible first | exact HB.out | apply zBa | apply zBn | apply zBd) | exact HB.out)⟩
   replace c12 := Bool.eq_false_iff.mpr c12
   subst c12
   have H1 : (if 0 ≤ (IntKind.u64.wrap (a0)) then (if 0 ≤ (shl .i64 1 (IntKind.u64.wrap (a0))) then (if (shl .i64 1 (IntKind.u64.wrap (a0)) : Int).toNat ≤ 7036874417766 then (spec_Likeliest.l0 kj4 a0 a1 a2 l3 (wrap64 ((wrap64 ((l3.length : Int) / 2)) - a0)) (List.replicate (shl .i64 1 (IntKind.u64.wrap (a0)) : Int).toNat z54) 1) else (none)) else (none)) else (none)) = some (r1, r2, r3) := by rw [if_neg (show ¬ (false = true) by decide)] at H; exact H
   clear H
   have H := H1
   clear H1
   obtain ⟨ji15, hji15⟩ : ∃ j_ : Int, (IntKind.u64.wrap (a0)) = j_ := ⟨_, rfl⟩
   replace H : (if 0 ≤ (ji15) then (if 0 ≤ (shl .i64 1 (ji15)) then (if (shl .i64 1 (ji15) : Int).toNat ≤ 7036874417766 then (spec_Likeliest.l0 kj4 a0 a1 a2 l3 (wrap64 ((wrap64 ((l3.length : Int) / 2)) - a0)) (List.replicate (shl .i64 1 (ji15) : Int).toNat z54) 1) else (none)) else (none)) else (none)) = some (r1, r2, r3) := by first | (rw [hji15] at H; exact H) | (simp only [hji15] at H ⊢; exact H)
   by_cases c16 : 0 ≤ (ji15)
   case neg =>
    rw [if_neg c16] at H
    exact absurd H (by simp)
   rw [if_pos c16] at H
   have c16b0 := eq_true c16
   have c16b1 : decide (0 ≤ (ji15)) = true := zE c16
   clear c16
   obtain ⟨ji17, hji17⟩ : ∃ j_ : Int, (shl .i64 1 (ji15)) = j_ := ⟨_, rfl⟩
   replace H : (if 0 ≤ (ji17) then (if (ji17 : Int).toNat ≤ 7036874417766 then (spec_Likeliest.l0 kj4 a0 a1 a2 l3 (wrap64 ((wrap64 ((l3.length : Int) / 2)) - a0)) (List.replicate (ji17 : Int).toNat z54) 1) else (none)) else (none)) = some (r1, r2, r3) := by first | (rw [hji17] at H; exact H) | (simp only [hji17] at H ⊢; exact H)
   have hji17_ : (IntKind.i64.wrap (1 * 2 ^ min (ji15).toNat 64)) = ji17 := hji17
   have hji17z : (ji15) ≤ 64 → (IntKind.i64.wrap (1 * 2 ^ (ji15).toNat)) = ji17 := shl_small hji17
   have hji17u : (IntKind.i64.wrap (2 ^ min (ji15).toNat 64)) = ji17 := by have h_ := hji17_; rw [Int.one_mul] at h_; exact h_
   have hji17v : (ji15) ≤ 64 → (IntKind.i64.wrap (2 ^ (ji15).toNat)) = ji17 := fun hle_ => by have h_ := hji17z hle_; rw [Int.one_mul] at h_; exact h_
   have hji17y : (wrap64 (1 * 2 ^ min (ji15).toNat 64)) = ji17 := (i64_w _).symm.trans hji17_
   have hji17x : (ji15) ≤ 64 → (wrap64 (1 * 2 ^ (ji15).toNat)) = ji17 := fun h_ => (i64_w _).symm.trans (hji17z h_)
   by_cases c18 : 0 ≤ (ji17)
   case neg =>
    rw [if_neg c18] at H
    exact absurd H (by simp)
   rw [if_pos c18] at H
   have c18b0 := eq_true c18
   have c18b1 : decide (0 ≤ (ji17)) = true := zE c18
   clear c18
   by_cases c19 : (ji17 : Int).toNat ≤ 7036874417766
   case neg =>
    rw [if_neg c19] at H
    exact absurd H (by simp)
   rw [if_pos c19] at H
   have c19b0 := eq_true c19
   have c19b1 : decide ((ji17 : Int).toNat ≤ 7036874417766) = true := zE c19
   clear c19
   obtain ⟨y142, hy142⟩ : ∃ y_ : List (S54), y_ = (List.replicate (ji17 : Int).toNat z54) := ⟨_, rfl⟩
   replace H : (spec_Likeliest.l0 kj4 a0 a1 a2 l3 (wrap64 ((wrap64 ((l3.length : Int) / 2)) - a0)) y142 1) = some (r1, r2, r3) := by first | (rw [hy142]; with_reducible exact H) | (have H2_ := (Option.bind_some _ _).symm.trans H; rw [hy142]; with_reducible exact H2_) | (have H2_ := (Option.bind_some _ _).symm.trans H; with_reducible exact H2_) | with_reducible exact H | (rw [hy142]; exact H) | exact H
   have Ny142 := Aside0.mk hy142
   clear hy142
   have H' := Aside0.mk H
   clear H
   go_wp2_with (first | ((with_reducible refine gate_dst (N := 45) rfl ?_); (try (refine gate_guard (by rfl) ?_; dsimp only)); refine Kd.S_make k54 _ 54 rfl (N := 45) rfl 51 _ _ rfl ji17 rfl rfl Try.underlying51 (.agg #[(.bool false), (.int .i64 0), (.slice none 0 0)]) 40 info54 rfl (by decide) (by omega) z54 (ok := fun _ => True) (okp := fun _ => True) (k54_mkM _ _ _ z54 (Kd.R_nil _ _ _ _ _)) (fun _ hk => hk) trivial (zT (by first | (with_reducible assumption) | assumption)) (Nat.le_trans (Nat.mul_le_mul_right _ (zT (by first | (with_reducible assumption) | assumption) : ji17.toNat ≤ 7036874417766)) (by omega)) (Below.refl _ _) (Nat.le_refl _) ?_; intro v143 w20 ho21 hb hg_ hnew_; clear hg_ hnew_; (first | rw [← Ny142.out] at ho21 | (simp only [Int.reduceToNat] at ho21; rw [← Ny142.out] at ho21)); have n0_ := Aside0.mk (Kd.S_lower ho21 (below_size (by repeat (first | (with_reducible first | exact HB.out | apply zBa | apply zBn | apply zBd) | exact HB.out)))); have n1_ := Aside0.mk (below_step (by repeat (first | (with_reducible first | exact HB.out | apply zBa | apply zBn | apply zBd) | exact HB.out)) hb); clear HB; have HO144 := n0_; have HB := n1_; clear n0_ n1_; clear hb ho21))
   (try simp only [Act.put, List.setIfInBounds_toArray, List.set_cons_zero, List.set_cons_succ])
   go_loopg [13] kj4 (fun kq v13 w' => ∃ (x12_2 : List (S54)) (x13_2 : Int), v13 = .int .i64 x13_2 ∧ Aside0 (spec_Likeliest.l0 kq a0 a1 a2 l3 (wrap64 ((wrap64 ((l3.length : Int) / 2)) - a0)) x12_2 x13_2 = some (r1, r2, r3)) ∧ Aside0 (kq ≤ kj4) ∧ Aside0 (Kd.S k54 54 w' w.heap.size (fun _ => True) v143 x12_2) ∧ Aside0 (Below w.heap.size w w'))
   case atStart => exact ⟨(y142), (1), (by first | rfl | (simp; done) | (simp [*]; done)), H', ⟨Nat.le_refl _⟩, ⟨by (with_reducible repeat (first | apply Kd.S_alloc | apply Kd.S_drewN | apply Kd.S_drew)); first | exact HO144.out | (subst_vars; exact HO144.out)⟩, ⟨by repeat (first | (with_reducible first | exact HB.out | apply zBa | apply zBn | apply zBd) | exact HB.out)⟩⟩
   case round =>
    clear H'
    try clear c1
    try clear c2
    try clear p2
    try clear c3
    try clear p6
    try clear c7
    try clear c8
    try clear c8b0
    try clear c8b1
    try clear c10
    try clear c12
    try clear c16
    try clear c16b0
    try clear c16b1
    try clear c18
    try clear c18b0
    try clear c18b1
    try clear c19
    try clear c19b0
    try clear c19b1
    try clear p2
    try clear p6
    obtain ⟨x12_2, x13_2, rfl, HA, HK2, HO_12, HB⟩ := hrel
    cases gk with
    | zero => exact absurd HA.out (by simp [spec_Likeliest.l0])
    | succ k2 =>
     have H := HA.out
     clear HA
     simp only [spec_Likeliest.l0] at H
     by_cases c22 : x13_2 < (x12_2.length : Int)
     case pos =>
      rw [if_pos c22] at H
      have c22b0 : decide (x13_2 < (x12_2.length : Int)) = true := zE c22
      clear c22
      by_cases c23 : 0 ≤ x13_2
      case neg =>
       rw [if_neg c23] at H
       exact absurd H (by simp)
      rw [if_pos c23] at H
      have c23b0 : decide (0 ≤ x13_2) = true := zE c23
      clear c23
      obtain ⟨y145, hy145⟩ : ∃ y_ : List (S54), y_ = (x12_2.set (x13_2 : Int).toNat (⟨true, (rd_T54 x12_2 x13_2).f1, (rd_T54 x12_2 x13_2).f2⟩ : S54)) := ⟨_, rfl⟩
      replace H : (spec_Likeliest.l0 k2 a0 a1 a2 l3 (wrap64 ((wrap64 ((l3.length : Int) / 2)) - a0)) y145 (wrap64 (x13_2 + 1))) = some (r1, r2, r3) := by first | (rw [hy145]; with_reducible exact H) | (have H2_ := (Option.bind_some _ _).symm.trans H; rw [hy145]; with_reducible exact H2_) | (have H2_ := (Option.bind_some _ _).symm.trans H; with_reducible exact H2_) | with_reducible exact H | (rw [hy145]; exact H) | exact H
      have Ny145 := Aside0.mk hy145
      clear hy145
      have H' := Aside0.mk H
      clear H
      obtain ⟨Ao25, co25, eo25⟩ := Kd.S_slice HO_12.out
      subst eo25
      have p24 : 0 ≤ (x13_2 : Int) := zT (by first | (with_reducible assumption) | assumption)
      have q24 : (x13_2 : Int) < ((x12_2.length : Int) : Int) := zT (by first | (with_reducible assumption) | assumption)
      obtain ⟨go24, co24, eo24, gb24, gl24, cl24, HG24⟩ := Kd.S_form HO_12.out (by omega)
      (first | cases eo24 | (injection eo24 with ea_ en_ ec_; (first | subst ea_ | (injection ea_ with ea_; subst ea_)); subst ec_; clear en_))
      have GB24 := Aside0.mk gb24
      have GG24 := Aside0.mk HG24
      clear gb24 gl24 HG24
      obtain ⟨_, ce24, hcl24, hM24, hcc24, hfr24, _, _⟩ := Kd.S_elem HO_12.out z54 (x13_2 : Int) p24 q24
      obtain ⟨ve24_2, rfl, ge24_2⟩ := k54_openM hM24
      have hx24_0 : wr.cell? ⟨go24, (x13_2 : Int).toNat * 3, none⟩ = some (.bool ((rd_T54 x12_2 x13_2).f0)) := hcc24 0 _ rfl
      have hx24_1 : wr.cell? ⟨go24, (x13_2 : Int).toNat * 3 + 1, none⟩ = some (.int .i64 ((rd_T54 x12_2 x13_2).f1)) := hcc24 1 _ rfl
      have hx24_2 : wr.cell? ⟨go24, (x13_2 : Int).toNat * 3 + 2, none⟩ = some (ve24_2) := hcc24 2 _ rfl
      have hf24_0 : wr.frozen? ⟨go24, (x13_2 : Int).toNat * 3, none⟩ = false := hfr24 0
      have hf24_1 : wr.frozen? ⟨go24, (x13_2 : Int).toNat * 3 + 1, none⟩ = false := hfr24 1
      have hf24_2 : wr.frozen? ⟨go24, (x13_2 : Int).toNat * 3 + 2, none⟩ = false := hfr24 2
      (try clear hcl24 hcc24 hfr24); (try clear hM24)
      replace p24 := eq_true p24
      replace q24 := eq_true q24
      have HX26 := Aside0.mk (show Kd.S k54 54 wr w.heap.size (fun k_ => ((fun _ => True)) k_ ∧ ¬ ((fun _ => False)) k_) (.slice (some ⟨go24, 0, none⟩) x12_2.length co25) x12_2 from (by (with_reducible repeat (first | apply Kd.S_alloc | apply Kd.S_drewN | apply Kd.S_drew)); exact Kd.S_mono HO_12.out (fun k_ hk => ⟨trivial, fun e_ => e_⟩)))
      obtain ⟨oki26, ce26, hcl26, hM26, hcc26, hfr26, hoki26, hH26⟩ := Kd.S_elem HX26.out z54 (x13_2 : Int) (zT (by first | (with_reducible assumption) | assumption)) (by have h_ : (x13_2 : Int) < ((x12_2.length : Int) : Int) := zT (by first | (with_reducible assumption) | assumption); first | exact h_ | (have e_ := (Kd.S_reads' HO_12.out).1; omega) | simpa using h_)
      obtain ⟨ve26_2, rfl, ge26_2⟩ := k54_openM hM26
      have HP26 := Kd.S_seg hH26 (zT (by first | (with_reducible assumption) | assumption)) (by have h_ : (x13_2 : Int) < ((x12_2.length : Int) : Int) := zT (by first | (with_reducible assumption) | assumption); first | exact h_ | (have e_ := (Kd.S_reads' HO_12.out).1; omega) | simpa using h_) (seg := [.bool true]) (j := 0) (show 1 ≤ 3 from by decide) (x' := (⟨true, (rd_T54 x12_2 x13_2).f1, (rd_T54 x12_2 x13_2).f2⟩ : S54)) (k54_mkM _ _ _ (⟨true, (rd_T54 x12_2 x13_2).f1, (rd_T54 x12_2 x13_2).f2⟩ : S54) (Kd.R_mono ge26_2 (fun _ h_ => Or.inl h_))) (fun _ hk => hk) (fun k_ hk_ => hk_.elim)
      have hx26_0 := hcc26 0 _ rfl
      (try simp only [show (k54).sz = 3 from rfl, Nat.mul_one, Nat.add_zero] at hx26_0)
      have hf26_0 := hfr26 0
      (try simp only [show (k54).sz = 3 from rfl, Nat.mul_one, Nat.add_zero] at hf26_0)
      (try clear hcl26 hcc26 hfr26 hoki26 hH26); (try clear hM26)
      go_wp2_with (first | ((with_reducible refine gate_store (t := 4) (p := 55) rfl ?_); refine store_event (t := 4) (p := 55) (v := ?vo_w27) (w1 := (wr.setCell ⟨go24, (x13_2 : Int).toNat * 3, none⟩ (.bool true))) ?hg ?ho ?hn ?hr ?_; (case ho => rfl); (case hg => rfl); (case hn => rfl); (case hr => first | (go_simp; done) | (go_simp; rfl)); intro w27 hw; have hg : wr.grownBy w27 (some go24) := (by rw [hw]; exact HP26.2); have hp_ : Kd.S k54 54 w27 w.heap.size (fun _ => True) (.slice (some ⟨go24, 0, none⟩) x12_2.length co25) y145 := (by rw [hw, Ny145.out]; exact HP26.1); clear HP26; have n0_ := Aside0.mk (hp_); have n1_ := Aside0.mk ((by rw [hw]; exact zBs (HB.out) GB24.out : Below w.heap.size w w27)); clear HO_12; clear HB; have HO_12 := n0_; have HB := n1_; clear n0_ n1_; clear hg hw hp_))
      go_roundg k2
      case measure => have := HJ4.out; have := HK2.out; omega
      case rel => exact ⟨(y145), (wrap64 (x13_2 + 1)), (by first | rfl | (simp; done) | (simp [*]; done)), H', ⟨by have := HJ4.out; have := HK2.out; omega⟩, ⟨by (with_reducible repeat (first | apply Kd.S_alloc | apply Kd.S_drewN | apply Kd.S_drew)); first | exact HO_12.out | (subst_vars; exact HO_12.out)⟩, ⟨by repeat (first | (with_reducible first | exact HB.out | apply zBa | apply zBn | apply zBd) | exact HB.out)⟩⟩
     rw [if_neg c22] at H
     have c22b0 : decide (x13_2 < (x12_2.length : Int)) = false := decide_eq_false c22
     clear c22
     have H' := Aside0.mk H
     clear H
     obtain ⟨Ao28, co28, eo28⟩ := Kd.S_slice HO_12.out
     subst eo28
     go_wp2
     (try simp only [Act.put, List.setIfInBounds_toArray, List.set_cons_zero, List.set_cons_succ])
     go_loopg [12, 14] k2 (fun kq v12 v14 w' => ∃ (x12_3 : List (S54)) (x14_3 : Int), v14 = .int .i64 x14_3 ∧ Aside0 (spec_Likeliest.l1 kq a0 a1 a2 l3 (wrap64 ((wrap64 ((l3.length : Int) / 2)) - a0)) x12_3 x14_3 = some (r1, r2, r3)) ∧ Aside0 (kq ≤ k2) ∧ Aside0 (Kd.S k54 54 w' w.heap.size (fun _ => True) v12 x12_3) ∧ Aside0 (Below w.heap.size w w'))
     case atStart => exact ⟨(x12_2), (0), (by first | rfl | (simp; done) | (simp [*]; done)), H', ⟨Nat.le_refl _⟩, ⟨by (with_reducible repeat (first | apply Kd.S_alloc | apply Kd.S_drewN | apply Kd.S_drew)); first | exact HO_12.out | (subst_vars; exact HO_12.out)⟩, ⟨by repeat (first | (with_reducible first | exact HB.out | apply zBa | apply zBn | apply zBd) | exact HB.out)⟩⟩
     case round =>
      clear H'
      try clear c1
      try clear c2
      try clear p2
      try clear q2
      try clear hx2
      try clear c3
      try clear p6
      try clear c7
      try clear c8
      try clear c8b0
      try clear c8b1
      try clear c10
      try clear c12
      try clear c16
      try clear c16b0
      try clear c16b1
      try clear c18
      try clear c18b0
      try clear c18b1
      try clear c19
      try clear c19b0
      try clear c19b1
      try clear c22
      try clear c22b0
      try clear c23
      try clear c23b0
      try clear c24
      try clear p24
      try clear q24
      try clear hx24
      try clear hf24
      try clear c26
      try clear hx26
      try clear hf26
      try clear c28
      try clear hx24_0
      try clear hx24_1
      try clear hx24_2
      try clear hx26_0
      try clear p2
      try clear p24
      try clear p6
      try clear q24
      obtain ⟨x12_3, x14_3, rfl, HA, HK3, HO_12, HB⟩ := hrel
      cases gk with
      | zero => exact absurd HA.out (by simp [spec_Likeliest.l1])
      | succ k3 =>
       have H := HA.out
       clear HA
       simp only [spec_Likeliest.l1] at H
       by_cases c29 : x14_3 < (wrap64 ((wrap64 ((wrap64 ((l3.length : Int) / 2)) - a0)) + a0))
       case neg =>
        rw [if_neg c29] at H
        have c29b0 : decide (x14_3 < (wrap64 ((wrap64 ((wrap64 ((l3.length : Int) / 2)) - a0)) + a0))) = false := decide_eq_false c29
        clear c29
        by_cases c40 : 0 < (x12_3.length : Int)
        case neg =>
         rw [if_neg c40] at H
         exact absurd H (by simp)
        rw [if_pos c40] at H
        have c40b0 : decide (0 < (x12_3.length : Int)) = true := zE c40
        have c40b1 : decide (0 < x12_3.length) = true := zE (by omega)
        clear c40
        simp only [Option.some.injEq, Prod.mk.injEq] at H
        obtain ⟨rfl, rfl, rfl⟩ := H
        try go_wp2
        have n0_ := Aside0.mk (Kd.S_drew HO_12.out)
        have n1_ := Aside0.mk (zBd HB.out)
        clear HO_12
        clear HB
        have HO_12 := n0_
        have HB := n1_
        clear n0_ n1_
        obtain ⟨Ao42, co42, eo42⟩ := Kd.S_slice HO_12.out
        (first | subst eo42 | (injection eo42 with f1_ f2_ f3_; have f4_ := f1_.symm; have f5_ := f3_.symm; clear f1_ f2_ f3_; subst f4_; subst f5_))
        have p151 : 0 ≤ (0 : Int) := (by omega)
        have q151 : 0 < (x12_3.length : Int) := zT (by first | (with_reducible assumption) | assumption)
        obtain ⟨ad151, A151_2, c151_2, e151, hx151_0, hx151_1, hx151_2, hl151_2, hi151_2⟩ := at_T54 (Kd.S_reads' HO_12.out).2.2 0 p151 q151
        cases e151
        obtain ⟨ce151, hce151, hMe151, hcc151⟩ := Kd.S_get HO_12.out z54 0 p151 (by first | exact q151 | exact zT (by first | (with_reducible assumption) | assumption) | (have e_ := (Kd.S_reads' HO_12.out).1; omega))
        obtain ⟨ve151_2, rfl, ge151_2⟩ := k54_openM hMe151
        have hv151_2 := hcc151 2 _ rfl
        rw [add_field _ _ 2 (by omega)] at hv151_2
        replace hv151_2 := Option.some.inj (hv151_2.symm.trans hx151_2)
        rw [hv151_2] at ge151_2
        have HL151_2 := Aside0.mk (show Kd.R (Kd.int .i64) 3 _ _ _ _ ((rd_T54 x12_3 0).f2) from ge151_2)
        clear hv151_2 ge151_2
        clear hcc151 hce151
        have qi151 : (0 < x12_3.length) = True := eq_true (by omega)
        (try rw [show ((0 : Int)).toNat = 0 from rfl] at hx151_0)
        (try rw [show 0 * 3 = 0 from rfl] at hx151_0)
        (try rw [Addr.add_zero'] at hx151_0)
        (try rw [show ((0 : Int)).toNat = 0 from rfl] at hx151_1)
        (try rw [show 0 * 3 = 0 from rfl] at hx151_1)
        (try rw [Addr.add_zero'] at hx151_1)
        (try rw [show ((0 : Int)).toNat = 0 from rfl] at hx151_2)
        (try rw [show 0 * 3 = 0 from rfl] at hx151_2)
        (try rw [Addr.add_zero'] at hx151_2)
        have HR151_2 := Aside0.mk hi151_2
        have HC151_2 := Aside0.mk hl151_2
        clear hi151_2 hl151_2
        replace p151 := eq_true p151
        replace q151 := eq_true q151
        have p152 : 0 ≤ (0 : Int) := (by omega)
        have q152 : 0 < (x12_3.length : Int) := zT (by first | (with_reducible assumption) | assumption)
        obtain ⟨ad152, A152_2, c152_2, e152, hx152_0, hx152_1, hx152_2, hl152_2, hi152_2⟩ := at_T54 (Kd.S_reads' HO_12.out).2.2 0 p152 q152
        obtain rfl : ad151 = ad152 := (by injection e152)
        obtain ⟨ce152, hce152, hMe152, hcc152⟩ := Kd.S_get HO_12.out z54 0 p152 (by first | exact q152 | exact zT (by first | (with_reducible assumption) | assumption) | (have e_ := (Kd.S_reads' HO_12.out).1; omega))
        obtain ⟨ve152_2, rfl, ge152_2⟩ := k54_openM hMe152
        have hv152_2 := hcc152 2 _ rfl
        rw [add_field _ _ 2 (by omega)] at hv152_2
        replace hv152_2 := Option.some.inj (hv152_2.symm.trans hx152_2)
        rw [hv152_2] at ge152_2
        have HL152_2 := Aside0.mk (show Kd.R (Kd.int .i64) 3 _ _ _ _ ((rd_T54 x12_3 0).f2) from ge152_2)
        clear hv152_2 ge152_2
        clear hcc152 hce152
        have qi152 : (0 < x12_3.length) = True := eq_true (by omega)
        (try rw [show ((0 : Int)).toNat = 0 from rfl] at hx152_0)
        (try rw [show 0 * 3 = 0 from rfl] at hx152_0)
        (try rw [Addr.add_zero'] at hx152_0)
        (try rw [show ((0 : Int)).toNat = 0 from rfl] at hx152_1)
        (try rw [show 0 * 3 = 0 from rfl] at hx152_1)
        (try rw [Addr.add_zero'] at hx152_1)
        (try rw [show ((0 : Int)).toNat = 0 from rfl] at hx152_2)
        (try rw [show 0 * 3 = 0 from rfl] at hx152_2)
        (try rw [Addr.add_zero'] at hx152_2)
        have HR152_2 := Aside0.mk hi152_2
        have HC152_2 := Aside0.mk hl152_2
        clear hi152_2 hl152_2
        replace p152 := eq_true p152
        replace q152 := eq_true q152
        have ea_ := Option.some.inj (hx151_2.symm.trans hx152_2)
        injection ea_ with ea_ en_ ec_
        subst ea_
        subst ec_
        clear en_
        refine start_ (n := 11) (S := fun w' => w'.cell? ad151 = some (.bool ((rd_T54 x12_3 0).f0)) ∧ w'.cell? ⟨ad151.block, ad151.off + 1, none⟩ = some (.int .i64 ((rd_T54 x12_3 0).f1)) ∧ w'.cell? ⟨ad151.block, ad151.off + 2, none⟩ = some (.slice A151_2 ((rd_T54 x12_3 0).f2).length c151_2) ∧ w'.cell? ad151 = some (.bool ((rd_T54 x12_3 0).f0)) ∧ w'.cell? ⟨ad151.block, ad151.off + 1, none⟩ = some (.int .i64 ((rd_T54 x12_3 0).f1)) ∧ w'.cell? ⟨ad151.block, ad151.off + 2, none⟩ = some (.slice A151_2 ((rd_T54 x12_3 0).f2).length c151_2)) (ds := []) #[false, false, false, false, false, false, false, false, false, false, false] (by kernel_rfl) rfl rfl ⟨hx151_0, hx151_1, hx151_2, hx152_0, hx152_1, hx152_2⟩ (fun hHeld => ?_); refine with_tabW spec_Likeliest.tab13 spec_Likeliest.bits13 (fun HT_ HW_ => ?_)
        generalize wr.drew = w41 at HO_12 HB HL151_2 HL152_2 HR151_2 HR152_2 hx151_0 hx151_1 hx151_2 hx152_0 hx152_1 hx152_2 hHeld ⊢
        refine pure_ (i := 0) (N := some 82) (v := ?_) (a' := ?_) #[true, false, false, false, false, false, false, false, false, false, false] rfl rfl (any_of HT_.out (by kernel_rfl)) (fun _ _ _ h => h) (Or.inl ⟨by rfl, ?_⟩) ?_ ?_
        rotate_left
        ·intro w'
         go_simp
         with_reducible rfl
        rotate_left
        ·simp only [Act.put, List.setIfInBounds_toArray, List.set_cons_zero, List.set_cons_succ, i64_w, i32_w]
         rfl
        refine pure_ (i := 1) (N := some 83) (v := ?_) (a' := ?_) #[true, true, false, false, false, false, false, false, false, false, false] rfl rfl (any_of HT_.out (by kernel_rfl)) (fun _ _ _ h => h) (Or.inl ⟨by rfl, ?_⟩) ?_ ?_
        rotate_left
        ·intro w'
         go_simp
         with_reducible rfl
        rotate_left
        ·simp only [Act.put, List.setIfInBounds_toArray, List.set_cons_zero, List.set_cons_succ, i64_w, i32_w]
         rfl
        refine pure_ (i := 2) (N := some 84) (v := ?_) (a' := ?_) #[true, true, true, false, false, false, false, false, false, false, false] rfl rfl (any_of HT_.out (by kernel_rfl)) (fun _ _ _ h => h) (Or.inl ⟨by rfl, ?_⟩) ?_ ?_
        rotate_left
        ·intro w'
         go_simp
         with_reducible rfl
        rotate_left
        ·simp only [Act.put, List.setIfInBounds_toArray, List.set_cons_zero, List.set_cons_succ, i64_w, i32_w]
         rfl
        refine pure_ (i := 4) (N := some 86) (v := ?_) (a' := ?_) #[true, true, true, false, true, false, false, false, false, false, false] rfl rfl (any_of HT_.out (by kernel_rfl)) (fun _ _ _ h => h) (Or.inl ⟨by rfl, ?_⟩) ?_ ?_
        rotate_left
        ·intro w'
         go_simp
         with_reducible rfl
        rotate_left
        ·simp only [Act.put, List.setIfInBounds_toArray, List.set_cons_zero, List.set_cons_succ, i64_w, i32_w]
         rfl
        refine pure_ (i := 5) (N := some 87) (v := ?_) (a' := ?_) #[true, true, true, false, true, true, false, false, false, false, false] rfl rfl (any_of HT_.out (by kernel_rfl)) (fun _ _ _ h => h) (Or.inl ⟨by rfl, ?_⟩) ?_ ?_
        rotate_left
        ·intro w'
         go_simp
         with_reducible rfl
        rotate_left
        ·simp only [Act.put, List.setIfInBounds_toArray, List.set_cons_zero, List.set_cons_succ, i64_w, i32_w]
         rfl
        refine pure_ (i := 6) (N := some 88) (v := ?_) (a' := ?_) #[true, true, true, false, true, true, true, false, false, false, false] rfl rfl (any_of HT_.out (by kernel_rfl)) (fun _ _ _ h => h) (Or.inl ⟨by rfl, ?_⟩) ?_ ?_
        rotate_left
        ·intro w'
         go_simp
         with_reducible rfl
        rotate_left
        ·simp only [Act.put, List.setIfInBounds_toArray, List.set_cons_zero, List.set_cons_succ, i64_w, i32_w]
         rfl
        refine take_ (i := 3) (N := some 85) (v := ?_) (a' := ?_) #[true, true, true, true, true, true, true, false, false, false, false] rfl rfl (take_ofW HT_.out HW_.out (by kernel_rfl)) (fun _ _ _ h => h) (Or.inl ⟨by rfl, ?_⟩) hHeld ?_ ?_
        rotate_left
        ·rintro w' ⟨s0, s1, s2, s3, s4, s5⟩
         go_simp
         with_reducible rfl
        rotate_left
        ·simp only [Act.put, List.setIfInBounds_toArray, List.set_cons_zero, List.set_cons_succ, i64_w, i32_w]
         rfl
        refine pure_ (i := 8) (N := some 8) (v := ?_) (a' := ?_) #[true, true, true, true, true, true, true, false, true, false, false] rfl rfl (any_of HT_.out (by kernel_rfl)) (fun _ _ _ h => h) (Or.inl ⟨by rfl, ?_⟩) ?_ ?_
        rotate_left
        ·intro w'
         go_simp
         with_reducible rfl
        rotate_left
        ·simp only [Act.put, List.setIfInBounds_toArray, List.set_cons_zero, List.set_cons_succ, i64_w, i32_w]
         rfl
        refine take_ (i := 7) (N := some 89) (v := ?_) (a' := ?_) #[true, true, true, true, true, true, true, true, true, false, false] rfl rfl (take_ofW HT_.out HW_.out (by kernel_rfl)) (fun _ _ _ h => h) (Or.inl ⟨by rfl, ?_⟩) hHeld ?_ ?_
        rotate_left
        ·rintro w' ⟨s0, s1, s2, s3, s4, s5⟩
         go_simp
         with_reducible rfl
        rotate_left
        ·simp only [Act.put, List.setIfInBounds_toArray, List.set_cons_zero, List.set_cons_succ, i64_w, i32_w]
         rfl
        refine pure_ (i := 9) (N := some 9) (v := ?_) (a' := ?_) #[true, true, true, true, true, true, true, true, true, true, false] rfl rfl (any_of HT_.out (by kernel_rfl)) (fun _ _ _ h => h) (Or.inl ⟨by rfl, ?_⟩) ?_ ?_
        rotate_left
        ·intro w'
         go_simp
         with_reducible rfl
        rotate_left
        ·simp only [Act.put, List.setIfInBounds_toArray, List.set_cons_zero, List.set_cons_succ, i64_w, i32_w]
         rfl
        refine pure_ (i := 10) (N := some 10) (v := ?_) (a' := ?_) #[true, true, true, true, true, true, true, true, true, true, true] rfl rfl (any_of HT_.out (by kernel_rfl)) (fun _ _ _ h => h) (Or.inl ⟨by rfl, ?_⟩) ?_ ?_
        rotate_left
        ·intro w'
         go_simp
         with_reducible rfl
        rotate_left
        ·simp only [Act.put, List.setIfInBounds_toArray, List.set_cons_zero, List.set_cons_succ, i64_w, i32_w]
         rfl
        refine done_ (done_of HT_.out (by kernel_rfl)) ?_
        try go_wp2
        go_ret3
        exact ⟨_, by first | rfl | (simp [errW_none, errW_some] <;> rfl) | (simp only [← hji15, ← hji17]; first | rfl | (simp [errW_none, errW_some] <;> rfl)) | (simp [*, errW_none, errW_some] <;> rfl), by (with_reducible repeat (first | apply zRa | apply zRn | apply zRd)); first | exact Kd.R_mono HL151_2.out (fun _ hk => trivial) | (subst_vars; exact Kd.R_mono HL151_2.out (fun _ hk => trivial)), by repeat (first | (with_reducible first | exact HB.out | apply zBa | apply zBn | apply zBd) | exact HB.out)⟩
       rw [if_pos c29] at H
       have c29b0 : decide (x14_3 < (wrap64 ((wrap64 ((wrap64 ((l3.length : Int) / 2)) - a0)) + a0))) = true := zE c29
       clear c29
       obtain ⟨ji30, hji30⟩ : ∃ j_ : Int, (wrap64 (2 * x14_3)) = j_ := ⟨_, rfl⟩
       replace H : (if 0 ≤ (ji30) then (if (ji30) < (l3.length : Int) then (if 0 ≤ (wrap64 ((ji30) + 1)) then (if (wrap64 ((ji30) + 1)) < (l3.length : Int) then ((spec_l15Step.f k3 a0 a1 a2 x12_3 (rd l3 (ji30)) (rd l3 (wrap64 ((ji30) + 1))) (decide (x14_3 ≥ (wrap64 ((wrap64 ((l3.length : Int) / 2)) - a0))))).bind fun t148 => (spec_Likeliest.l1 k3 a0 a1 a2 l3 (wrap64 ((wrap64 ((l3.length : Int) / 2)) - a0)) t148 (wrap64 (x14_3 + 1)))) else (none)) else (none)) else (none)) else (none)) = some (r1, r2, r3) := by first | (rw [hji30] at H; exact H) | (simp only [hji30] at H ⊢; exact H)
       have hji30w : (IntKind.i64.wrap (2 * x14_3)) = ji30 := (i64_w _).trans hji30
       by_cases c31 : 0 ≤ (ji30)
       case neg =>
        rw [if_neg c31] at H
        exact absurd H (by simp)
       rw [if_pos c31] at H
       have c31b0 : decide (0 ≤ (ji30)) = true := zE c31
       clear c31
       by_cases c32 : (ji30) < (l3.length : Int)
       case neg =>
        rw [if_neg c32] at H
        exact absurd H (by simp)
       rw [if_pos c32] at H
       have c32b0 : decide ((ji30) < (l3.length : Int)) = true := zE c32
       clear c32
       obtain ⟨ji33, hji33⟩ : ∃ j_ : Int, (wrap64 ((ji30) + 1)) = j_ := ⟨_, rfl⟩
       replace H : (if 0 ≤ (ji33) then (if (ji33) < (l3.length : Int) then ((spec_l15Step.f k3 a0 a1 a2 x12_3 (rd l3 (ji30)) (rd l3 (ji33)) (decide (x14_3 ≥ (wrap64 ((wrap64 ((l3.length : Int) / 2)) - a0))))).bind fun t148 => (spec_Likeliest.l1 k3 a0 a1 a2 l3 (wrap64 ((wrap64 ((l3.length : Int) / 2)) - a0)) t148 (wrap64 (x14_3 + 1)))) else (none)) else (none)) = some (r1, r2, r3) := by first | (rw [hji33] at H; exact H) | (simp only [hji33] at H ⊢; exact H)
       have hji33w : (IntKind.i64.wrap ((ji30) + 1)) = ji33 := (i64_w _).trans hji33
       by_cases c34 : 0 ≤ (ji33)
       case neg =>
        rw [if_neg c34] at H
        exact absurd H (by simp)
       rw [if_pos c34] at H
       have c34b0 : decide (0 ≤ (ji33)) = true := zE c34
       clear c34
       by_cases c35 : (ji33) < (l3.length : Int)
       case neg =>
        rw [if_neg c35] at H
        exact absurd H (by simp)
       rw [if_pos c35] at H
       have c35b0 : decide ((ji33) < (l3.length : Int)) = true := zE c35
       clear c35
       replace H := Option.bind_eq_some_iff.mp H
       obtain ⟨t148, A360, H⟩ := H
       replace H : (spec_Likeliest.l1 k3 a0 a1 a2 l3 (wrap64 ((wrap64 ((l3.length : Int) / 2)) - a0)) t148 (wrap64 (x14_3 + 1))) = some (r1, r2, r3) := H
       have A36 := Aside0.mk A360
       clear A360
       have H' := Aside0.mk H
       clear H
       try go_wp2
       have n0_ := Aside0.mk (Kd.S_drew HO_12.out)
       have n1_ := Aside0.mk (zBd HB.out)
       clear HO_12
       clear HB
       have HO_12 := n0_
       have HB := n1_
       clear n0_ n1_
       have p146 : 0 ≤ ((ji30) : Int) := zT (by first | (with_reducible assumption) | assumption)
       have q146 : (ji30) < (l3.length : Int) := zT (by first | (with_reducible assumption) | assumption)
       obtain ⟨ad146, e146, hx146_0⟩ := Kd.at_int HR3.out (ji30) p146 q146
       have hw146_0 := hx146_0
       cases e146
       replace hx146_0 := (HB.out.cell (zW w _ hx146_0)).trans hx146_0
       replace p146 := eq_true p146
       replace q146 := eq_true q146
       have p147 : 0 ≤ ((ji33) : Int) := zT (by first | (with_reducible assumption) | assumption)
       have q147 : (ji33) < (l3.length : Int) := zT (by first | (with_reducible assumption) | assumption)
       obtain ⟨ad147, e147, hx147_0⟩ := Kd.at_int HR3.out (ji33) p147 q147
       have hw147_0 := hx147_0
       obtain rfl : ad146 = ad147 := (by injection e147)
       replace hx147_0 := (HB.out.cell (zW w _ hx147_0)).trans hx147_0
       replace p147 := eq_true p147
       replace q147 := eq_true q147
       obtain ⟨Ao38, co38, eo38⟩ := Kd.S_slice HO_12.out
       (first | subst eo38 | (injection eo38 with f1_ f2_ f3_; have f4_ := f1_.symm; have f5_ := f3_.symm; clear f1_ f2_ f3_; subst f4_; subst f5_))
       refine start_ (n := 20) (S := fun w' => w'.cell? (ad146.add ((ji30)).toNat) = some (.int .i64 (rd l3 (ji30))) ∧ w'.cell? (ad146.add ((ji33)).toNat) = some (.int .i64 (rd l3 (ji33)))) (ds := []) #[false, false, false, false, false, false, false, false, false, false, false, false, false, false, false, false, false, false, false, false] (by kernel_rfl) rfl rfl ⟨((HB.out.cell (zW w _ hw146_0)).trans hw146_0), ((HB.out.cell (zW w _ hw147_0)).trans hw147_0)⟩ (fun hHeld => ?_); refine with_tabW spec_Likeliest.tab12 spec_Likeliest.bits12 (fun HT_ HW_ => ?_)
       generalize wr.drew = w37 at HO_12 HB hx146_0 hx147_0 hHeld ⊢
       refine pure_ (i := 0) (N := some 63) (v := ?_) (a' := ?_) #[true, false, false, false, false, false, false, false, false, false, false, false, false, false, false, false, false, false, false, false] rfl rfl (any_of HT_.out (by kernel_rfl)) (fun _ _ _ h => h) (Or.inl ⟨by rfl, ?_⟩) ?_ ?_
       rotate_left
       ·intro w'
        go_simp
        with_reducible rfl
       rotate_left
       ·simp only [Act.put, List.setIfInBounds_toArray, List.set_cons_zero, List.set_cons_succ, i64_w, i32_w]
        rfl
       refine pure_ (i := 1) (N := some 64) (v := ?_) (a' := ?_) #[true, true, false, false, false, false, false, false, false, false, false, false, false, false, false, false, false, false, false, false] rfl rfl (any_of HT_.out (by kernel_rfl)) (fun _ _ _ h => h) (Or.inl ⟨by rfl, ?_⟩) ?_ ?_
       rotate_left
       ·intro w'
        go_simp
        with_reducible rfl
       rotate_left
       ·simp only [Act.put, List.setIfInBounds_toArray, List.set_cons_zero, List.set_cons_succ, i64_w, i32_w]
        rfl
       refine pure_ (i := 2) (N := some 65) (v := ?_) (a' := ?_) #[true, true, true, false, false, false, false, false, false, false, false, false, false, false, false, false, false, false, false, false] rfl rfl (any_of HT_.out (by kernel_rfl)) (fun _ _ _ h => h) (Or.inl ⟨by rfl, ?_⟩) ?_ ?_
       rotate_left
       ·intro w'
        go_simp
        with_reducible rfl
       rotate_left
       ·simp only [Act.put, List.setIfInBounds_toArray, List.set_cons_zero, List.set_cons_succ, i64_w, i32_w]
        rfl
       refine pure_ (i := 3) (N := some 66) (v := ?_) (a' := ?_) #[true, true, true, true, false, false, false, false, false, false, false, false, false, false, false, false, false, false, false, false] rfl rfl (any_of HT_.out (by kernel_rfl)) (fun _ _ _ h => h) (Or.inl ⟨by rfl, ?_⟩) ?_ ?_
       rotate_left
       ·intro w'
        go_simp
        with_reducible rfl
       rotate_left
       ·simp only [Act.put, List.setIfInBounds_toArray, List.set_cons_zero, List.set_cons_succ, i64_w, i32_w]
        rfl
       refine pure_ (i := 4) (N := some 67) (v := ?_) (a' := ?_) #[true, true, true, true, true, false, false, false, false, false, false, false, false, false, false, false, false, false, false, false] rfl rfl (any_of HT_.out (by kernel_rfl)) (fun _ _ _ h => h) (Or.inl ⟨by rfl, ?_⟩) ?_ ?_
       rotate_left
       ·intro w'
        go_simp
        with_reducible rfl
       rotate_left
       ·simp only [Act.put, List.setIfInBounds_toArray, List.set_cons_zero, List.set_cons_succ, i64_w, i32_w]
        rfl
       refine pure_ (i := 5) (N := some 68) (v := ?_) (a' := ?_) #[true, true, true, true, true, true, false, false, false, false, false, false, false, false, false, false, false, false, false, false] rfl rfl (any_of HT_.out (by kernel_rfl)) (fun _ _ _ h => h) (Or.inl ⟨by rfl, ?_⟩) ?_ ?_
       rotate_left
       ·intro w'
        go_simp
        with_reducible rfl
       rotate_left
       ·simp only [Act.put, List.setIfInBounds_toArray, List.set_cons_zero, List.set_cons_succ, i64_w, i32_w]
        rfl
       refine pure_ (i := 6) (N := some 69) (v := ?_) (a' := ?_) #[true, true, true, true, true, true, true, false, false, false, false, false, false, false, false, false, false, false, false, false] rfl rfl (any_of HT_.out (by kernel_rfl)) (fun _ _ _ h => h) (Or.inl ⟨by rfl, ?_⟩) ?_ ?_
       rotate_left
       ·intro w'
        go_simp
        with_reducible rfl
       rotate_left
       ·simp only [Act.put, List.setIfInBounds_toArray, List.set_cons_zero, List.set_cons_succ, i64_w, i32_w]
        rfl
       refine pure_ (i := 7) (N := some 70) (v := ?_) (a' := ?_) #[true, true, true, true, true, true, true, true, false, false, false, false, false, false, false, false, false, false, false, false] rfl rfl (any_of HT_.out (by kernel_rfl)) (fun _ _ _ h => h) (Or.inl ⟨by rfl, ?_⟩) ?_ ?_
       rotate_left
       ·intro w'
        go_simp
        with_reducible rfl
       rotate_left
       ·simp only [Act.put, List.setIfInBounds_toArray, List.set_cons_zero, List.set_cons_succ, i64_w, i32_w]
        rfl
       refine pure_ (i := 9) (N := some 72) (v := ?_) (a' := ?_) #[true, true, true, true, true, true, true, true, false, true, false, false, false, false, false, false, false, false, false, false] rfl rfl (any_of HT_.out (by kernel_rfl)) (fun _ _ _ h => h) (Or.inl ⟨by rfl, ?_⟩) ?_ ?_
       rotate_left
       ·intro w'
        go_simp
        with_reducible rfl
       rotate_left
       ·simp only [Act.put, List.setIfInBounds_toArray, List.set_cons_zero, List.set_cons_succ, i64_w, i32_w]
        rfl
       refine pure_ (i := 10) (N := some 73) (v := ?_) (a' := ?_) #[true, true, true, true, true, true, true, true, false, true, true, false, false, false, false, false, false, false, false, false] rfl rfl (any_of HT_.out (by kernel_rfl)) (fun _ _ _ h => h) (Or.inl ⟨by rfl, ?_⟩) ?_ ?_
       rotate_left
       ·intro w'
        go_simp
        with_reducible rfl
       rotate_left
       ·simp only [Act.put, List.setIfInBounds_toArray, List.set_cons_zero, List.set_cons_succ, i64_w, i32_w]
        rfl
       refine pure_ (i := 11) (N := some 74) (v := ?_) (a' := ?_) #[true, true, true, true, true, true, true, true, false, true, true, true, false, false, false, false, false, false, false, false] rfl rfl (any_of HT_.out (by kernel_rfl)) (fun _ _ _ h => h) (Or.inl ⟨by rfl, ?_⟩) ?_ ?_
       rotate_left
       ·intro w'
        go_simp
        with_reducible rfl
       rotate_left
       ·simp only [Act.put, List.setIfInBounds_toArray, List.set_cons_zero, List.set_cons_succ, i64_w, i32_w]
        rfl
       refine pure_ (i := 12) (N := some 75) (v := ?_) (a' := ?_) #[true, true, true, true, true, true, true, true, false, true, true, true, true, false, false, false, false, false, false, false] rfl rfl (any_of HT_.out (by kernel_rfl)) (fun _ _ _ h => h) (Or.inl ⟨by rfl, ?_⟩) ?_ ?_
       rotate_left
       ·intro w'
        go_simp
        with_reducible rfl
       rotate_left
       ·simp only [Act.put, List.setIfInBounds_toArray, List.set_cons_zero, List.set_cons_succ, i64_w, i32_w]
        rfl
       refine pure_ (i := 13) (N := some 76) (v := ?_) (a' := ?_) #[true, true, true, true, true, true, true, true, false, true, true, true, true, true, false, false, false, false, false, false] rfl rfl (any_of HT_.out (by kernel_rfl)) (fun _ _ _ h => h) (Or.inl ⟨by rfl, ?_⟩) ?_ ?_
       rotate_left
       ·intro w'
        go_simp
        with_reducible rfl
       rotate_left
       ·simp only [Act.put, List.setIfInBounds_toArray, List.set_cons_zero, List.set_cons_succ, i64_w, i32_w]
        rfl
       refine pure_ (i := 15) (N := some 78) (v := ?_) (a' := ?_) #[true, true, true, true, true, true, true, true, false, true, true, true, true, true, false, true, false, false, false, false] rfl rfl (any_of HT_.out (by kernel_rfl)) (fun _ _ _ h => h) (Or.inl ⟨by rfl, ?_⟩) ?_ ?_
       rotate_left
       ·intro w'
        go_simp
        with_reducible rfl
       rotate_left
       ·simp only [Act.put, List.setIfInBounds_toArray, List.set_cons_zero, List.set_cons_succ, i64_w, i32_w]
        rfl
       refine pure_ (i := 16) (N := some 79) (v := ?_) (a' := ?_) #[true, true, true, true, true, true, true, true, false, true, true, true, true, true, false, true, true, false, false, false] rfl rfl (any_of HT_.out (by kernel_rfl)) (fun _ _ _ h => h) (Or.inl ⟨by rfl, ?_⟩) ?_ ?_
       rotate_left
       ·intro w'
        go_simp
        with_reducible rfl
       rotate_left
       ·simp only [Act.put, List.setIfInBounds_toArray, List.set_cons_zero, List.set_cons_succ, i64_w, i32_w]
        rfl
       refine pure_ (i := 17) (N := some 80) (v := ?_) (a' := ?_) #[true, true, true, true, true, true, true, true, false, true, true, true, true, true, false, true, true, true, false, false] rfl rfl (any_of HT_.out (by kernel_rfl)) (fun _ _ _ h => h) (Or.inl ⟨by rfl, ?_⟩) ?_ ?_
       rotate_left
       ·intro w'
        go_simp
        with_reducible rfl
       rotate_left
       ·simp only [Act.put, List.setIfInBounds_toArray, List.set_cons_zero, List.set_cons_succ, i64_w, i32_w]
        rfl
       refine take_ (i := 8) (N := some 71) (v := ?_) (a' := ?_) #[true, true, true, true, true, true, true, true, true, true, true, true, true, true, false, true, true, true, false, false] rfl rfl (take_ofW HT_.out HW_.out (by kernel_rfl)) (fun _ _ _ h => h) (Or.inl ⟨by rfl, ?_⟩) hHeld ?_ ?_
       rotate_left
       ·rintro w' ⟨s0, s1⟩
        go_simp
        with_reducible rfl
       rotate_left
       ·simp only [Act.put, List.setIfInBounds_toArray, List.set_cons_zero, List.set_cons_succ, i64_w, i32_w]
        rfl
       refine take_ (i := 14) (N := some 77) (v := ?_) (a' := ?_) #[true, true, true, true, true, true, true, true, true, true, true, true, true, true, true, true, true, true, false, false] rfl rfl (take_ofW HT_.out HW_.out (by kernel_rfl)) (fun _ _ _ h => h) (Or.inl ⟨by rfl, ?_⟩) hHeld ?_ ?_
       rotate_left
       ·rintro w' ⟨s0, s1⟩
        go_simp
        with_reducible rfl
       rotate_left
       ·simp only [Act.put, List.setIfInBounds_toArray, List.set_cons_zero, List.set_cons_succ, i64_w, i32_w]
        rfl
       refine one_ (i := 18) (N := some 81) #[true, true, true, true, true, true, true, true, true, true, true, true, true, true, true, true, true, true, true, false] rfl rfl (one_of HT_.out (by kernel_rfl)) (by decide) (fun K hK => ?_)
       refine goes_ Try.func31 (by kernel_rfl) rfl #[.int .i64 a0, .int .i64 a1, .int .i64 a2, .slice Ao38 x12_3.length co38, .int .i64 (rd l3 (ji30)), .int .i64 (rd l3 (ji33)), .bool (decide (x14_3 ≥ (wrap64 ((wrap64 ((l3.length : Int) / 2)) - a0))))] (by rfl) rfl rfl (by (try simp only [List.map_toArray, List.map_cons, List.map_nil]); first | done | (simp only [hji30, hji33]; rfl) | rfl | (simp only [List.length_drop, List.length_take]; rfl)) ?_
       with_reducible refine (spec_l15Step.calls k3 a0 a1 a2 _ _ x12_3 (rd l3 (ji30)) (rd l3 (ji33)) (decide (x14_3 ≥ (wrap64 ((wrap64 ((l3.length : Int) / 2)) - a0)))) t148 _ ?side1 ?side2 A36.out).mono ?_
       (case side1 => repeat (first | exact (Kd.S_reads' HO_12.out).2.2 | (with_reducible first | refine zCa ?_ _ | refine zCn ?_ _ | refine zCd ?_)))
       (case side2 => exact (Kd.S_reads' HO_12.out).2.1)
       rintro e w39 ⟨v149, rfl, ho0, hb⟩
       refine ⟨_, rfl, ?_⟩
       have n0_ := Aside0.mk (Kd.S_elder' (by (with_reducible repeat (first | apply Kd.S_alloc | apply Kd.S_drewN | apply Kd.S_drew)); first | exact HO_12.out | (subst_vars; exact HO_12.out)) (Kd.S_base ho0) hb)
       have n1_ := Aside0.mk (Kd.S_lower (Kd.S_new' ho0 (Kd.S_lt (by (with_reducible repeat (first | apply Kd.S_alloc | apply Kd.S_drewN | apply Kd.S_drew)); first | exact HO_12.out | (subst_vars; exact HO_12.out)))) (below_size (by repeat (first | (with_reducible first | exact HB.out | apply zBa | apply zBn | apply zBd) | exact HB.out))))
       have n2_ := Aside0.mk (below_step (by repeat (first | (with_reducible first | exact HB.out | apply zBa | apply zBn | apply zBd) | exact HB.out)) hb)
       clear HO_12
       clear HB
       have HO_12 := n0_
       have HO150 := n1_
       have HB := n2_
       clear n0_ n1_ n2_
       (try clear hb)
       (try clear hb2)
       (try clear hk)
       (try clear hi)
       (try clear ho0)
       refine hK.out _ _ ⟨((HB.out.cell (zW w _ hw146_0)).trans hw146_0), ((HB.out.cell (zW w _ hw147_0)).trans hw147_0)⟩ (fun hHeld => ?_)
       clear hK K
       refine norm_ (a' := ?_) ?_ ?_
       rotate_left
       ·show Act.put _ (some 81) _ = _
        simp only [Act.put, List.setIfInBounds_toArray, List.set_cons_zero, List.set_cons_succ, i64_w, i32_w]
        rfl
       refine pure_ (i := 19) (N := some 12) (v := ?_) (a' := ?_) #[true, true, true, true, true, true, true, true, true, true, true, true, true, true, true, true, true, true, true, true] rfl rfl (any_of HT_.out (by kernel_rfl)) (fun _ _ _ h => h) (Or.inl ⟨by rfl, ?_⟩) ?_ ?_
       rotate_left
       ·intro w'
        go_simp
        with_reducible rfl
       rotate_left
       ·simp only [Act.put, List.setIfInBounds_toArray, List.set_cons_zero, List.set_cons_succ, i64_w, i32_w]
        rfl
       refine done_ (done_of HT_.out (by kernel_rfl)) ?_
       try go_wp2
       go_roundg k3
       case measure => have := HJ4.out; have := HK2.out; have := HK3.out; omega
       case rel => exact ⟨(t148), (wrap64 (x14_3 + 1)), (by first | rfl | (simp; done) | (simp [*]; done)), H', ⟨by have := HJ4.out; have := HK2.out; have := HK3.out; omega⟩, ⟨by (with_reducible repeat (first | apply Kd.S_alloc | apply Kd.S_drewN | apply Kd.S_drew)); first | exact Kd.S_mono HO150.out (fun _ hk => trivial) | (subst_vars; exact Kd.S_mono HO150.out (fun _ hk => trivial))⟩, ⟨by repeat (first | (with_reducible first | exact HB.out | apply zBa | apply zBn | apply zBd) | exact HB.out)⟩⟩

end Go.Proofs.Ytoggbgkpeigfmaa.PFnScored
