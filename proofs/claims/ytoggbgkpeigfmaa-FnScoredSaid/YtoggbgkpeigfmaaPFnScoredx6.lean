-- Written by a turned copy of the print (see the notes of this repo): plain functions and their walks. Lean checks it.
import Derived.Test.YtoggbgkpeigfmaaPFnScoredx0
import Derived.Test.YtoggbgkpeigfmaaPFnScoredx3
import Derived.Test.YtoggbgkpeigfmaaPFnScoredx5
namespace Go.Proofs.Ytoggbgkpeigfmaa.PFnScored
open Go.RowKit Go.Proofs.YtoggbgkpeigfmaaW.PrintWords Go.Proofs.YtoggbgkpeigfmaaW.PrintLast Go.Proofs.YtoggbgkpeigfmaaW.PrintMore
attribute [local go_sem] max2_int min2_int max_two min_two max_three min_three max_four min_four   -- for this text's walks alone
set_option linter.unusedVariables false
set_option linter.unusedSimpArgs false

mutual
def spec_l15Step.l0 : Nat → Int → Int → Int → List (S54) → Int → Int → Bool → List (S54) → Int → Option ((List (S54)))
 | 0, _, _, _, _, _, _, _, _, _ => none
 | k + 1, x0, x1, x2, x3, x4, x5, x6, x15, x16 => if x16 < (x15.length : Int) then (if 0 ≤ x16 then (spec_l15Step.l0 k x0 x1 x2 x3 x4 x5 x6 (x15.set (x16 : Int).toNat (⟨true, (rd_T54 x15 x16).f1, (rd_T54 x15 x16).f2⟩ : S54)) (wrap64 (x16 + 1))) else (none)) else (spec_l15Step.l1 k x0 x1 x2 x3 x4 x5 x6 x15 0)
def spec_l15Step.l1 : Nat → Int → Int → Int → List (S54) → Int → Int → Bool → List (S54) → Int → Option ((List (S54)))
 | 0, _, _, _, _, _, _, _, _, _ => none
 | k + 1, x0, x1, x2, x3, x4, x5, x6, x15, x17 => if x17 < (x3.length : Int) then (spec_l15Step.l2 k x0 x1 x2 x3 x4 x5 x6 x15 x17 0) else (some x15)
def spec_l15Step.l2 : Nat → Int → Int → Int → List (S54) → Int → Int → Bool → List (S54) → Int → Int → Option ((List (S54)))
 | 0, _, _, _, _, _, _, _, _, _, _ => none
 | k + 1, x0, x1, x2, x3, x4, x5, x6, x15, x17, x18 => if x18 < 2 then (if 0 ≤ x17 then (if x17 < (x3.length : Int) then (spec_l15Step.j3 k x0 x1 x2 x3 x4 x5 x6 x15 x17 x18 (!((rd_T54 x3 x17).f0))) else (none)) else (none)) else (spec_l15Step.j3 k x0 x1 x2 x3 x4 x5 x6 x15 x17 x18 false)
def spec_l15Step.j3 : Nat → Int → Int → Int → List (S54) → Int → Int → Bool → List (S54) → Int → Int → Bool → Option ((List (S54)))
 | 0, _, _, _, _, _, _, _, _, _, _, _ => none
 | k + 1, x0, x1, x2, x3, x4, x5, x6, x15, x17, x18, x50 => if x50 = true then (if x6 = true then (spec_l15Step.j4 k x0 x1 x2 x3 x4 x5 x6 x15 x17 x18 (x18 == 1)) else (spec_l15Step.j4 k x0 x1 x2 x3 x4 x5 x6 x15 x17 x18 false)) else (spec_l15Step.l1 k x0 x1 x2 x3 x4 x5 x6 x15 (wrap64 (x17 + 1)))
def spec_l15Step.j4 : Nat → Int → Int → Int → List (S54) → Int → Int → Bool → List (S54) → Int → Int → Bool → Option ((List (S54)))
 | 0, _, _, _, _, _, _, _, _, _, _, _ => none
 | k + 1, x0, x1, x2, x3, x4, x5, x6, x15, x17, x18, x57 => if x57 = true then (spec_l15Step.l2 k x0 x1 x2 x3 x4 x5 x6 x15 x17 (wrap64 (x18 + 1))) else (if 0 ≤ x17 then (if x17 < (x3.length : Int) then ((spec_l14Ones.f k (Go.bits .and .i64 (wrap64 ((wrap64 (2 * x17)) + x18)) x1)).bind fun t117 => ((spec_l14Ones.f k (Go.bits .and .i64 (wrap64 ((wrap64 (2 * x17)) + x18)) x2)).bind fun t118 => ((some (([] : List Int) : List Int)).bind fun y119 => (if y119.length + ((rd_T54 x3 x17).f2).length < 17592186044416 then ((some (y119 ++ ((rd_T54 x3 x17).f2) : List Int)).bind fun y123 => (if x6 = true then (if 0 ≤ (IntKind.u64.wrap (x0)) then (if (shl .i64 1 (IntKind.u64.wrap (x0))) = 0 then (none) else (if 0 ≤ (Int.tmod (wrap64 ((wrap64 (2 * x17)) + x18)) (shl .i64 1 (IntKind.u64.wrap (x0)))) then (if (Int.tmod (wrap64 ((wrap64 (2 * x17)) + x18)) (shl .i64 1 (IntKind.u64.wrap (x0)))) < (x15.length : Int) then ((l15Bet k (wrap64 ((wrap64 (((rd_T54 x3 x17).f1) + (wrap64 (x4 * (wrap64 ((wrap64 (2 * (Int.tmod t117 2))) - 1)))))) + (wrap64 (x5 * (wrap64 ((wrap64 (2 * (Int.tmod t118 2))) - 1)))))) y123 (rd_T54 x15 (Int.tmod (wrap64 ((wrap64 (2 * x17)) + x18)) (shl .i64 1 (IntKind.u64.wrap (x0)))))).bind fun t128 => (if t128 = true then (spec_l15Step.l2 k x0 x1 x2 x3 x4 x5 x6 (x15.set ((Int.tmod (wrap64 ((wrap64 (2 * x17)) + x18)) (shl .i64 1 (IntKind.u64.wrap (x0)))) : Int).toNat (⟨false, wrap64 ((wrap64 (((rd_T54 x3 x17).f1) + (wrap64 (x4 * (wrap64 ((wrap64 (2 * (Int.tmod t117 2))) - 1)))))) + (wrap64 (x5 * (wrap64 ((wrap64 (2 * (Int.tmod t118 2))) - 1))))), y123⟩ : S54)) x17 (wrap64 (x18 + 1))) else (spec_l15Step.l2 k x0 x1 x2 x3 x4 x5 x6 x15 x17 (wrap64 (x18 + 1))))) else (none)) else (none))) else (none)) else (if y123.length < 17592186044416 then ((some (y123 ++ [x18] : List Int)).bind fun y130 => (if 0 ≤ (IntKind.u64.wrap (x0)) then (if (shl .i64 1 (IntKind.u64.wrap (x0))) = 0 then (none) else (if 0 ≤ (Int.tmod (wrap64 ((wrap64 (2 * x17)) + x18)) (shl .i64 1 (IntKind.u64.wrap (x0)))) then (if (Int.tmod (wrap64 ((wrap64 (2 * x17)) + x18)) (shl .i64 1 (IntKind.u64.wrap (x0)))) < (x15.length : Int) then ((l15Bet k (wrap64 ((wrap64 (((rd_T54 x3 x17).f1) + (wrap64 (x4 * (wrap64 ((wrap64 (2 * (Int.tmod t117 2))) - 1)))))) + (wrap64 (x5 * (wrap64 ((wrap64 (2 * (Int.tmod t118 2))) - 1)))))) y130 (rd_T54 x15 (Int.tmod (wrap64 ((wrap64 (2 * x17)) + x18)) (shl .i64 1 (IntKind.u64.wrap (x0)))))).bind fun t134 => (if t134 = true then (spec_l15Step.l2 k x0 x1 x2 x3 x4 x5 x6 (x15.set ((Int.tmod (wrap64 ((wrap64 (2 * x17)) + x18)) (shl .i64 1 (IntKind.u64.wrap (x0)))) : Int).toNat (⟨false, wrap64 ((wrap64 (((rd_T54 x3 x17).f1) + (wrap64 (x4 * (wrap64 ((wrap64 (2 * (Int.tmod t117 2))) - 1)))))) + (wrap64 (x5 * (wrap64 ((wrap64 (2 * (Int.tmod t118 2))) - 1))))), y130⟩ : S54)) x17 (wrap64 (x18 + 1))) else (spec_l15Step.l2 k x0 x1 x2 x3 x4 x5 x6 x15 x17 (wrap64 (x18 + 1))))) else (none)) else (none))) else (none))) else (none)))) else (none))))) else (none)) else (none))
end
def spec_l15Step.f (k : Nat) (a0 : Int) (a1 : Int) (a2 : Int) (l3 : List (S54)) (a4 : Int) (a5 : Int) (a6 : Bool) : Option ((List (S54))) := if 0 ≤ (l3.length : Int) then (if ((l3.length : Int) : Int).toNat ≤ 7036874417766 then (spec_l15Step.l0 k a0 a1 a2 l3 a4 a5 a6 (List.replicate ((l3.length : Int) : Int).toNat z54) 0) else (none)) else (none)
theorem spec_l15Step.mono_l : ∀ k, (∀ y0 y1 y2 y3 y4 y5 y6 y7 y8, LeO (spec_l15Step.l0 k y0 y1 y2 y3 y4 y5 y6 y7 y8) (spec_l15Step.l0 (k + 1) y0 y1 y2 y3 y4 y5 y6 y7 y8)) ∧ (∀ y0 y1 y2 y3 y4 y5 y6 y7 y8, LeO (spec_l15Step.l1 k y0 y1 y2 y3 y4 y5 y6 y7 y8) (spec_l15Step.l1 (k + 1) y0 y1 y2 y3 y4 y5 y6 y7 y8)) ∧ (∀ y0 y1 y2 y3 y4 y5 y6 y7 y8 y9, LeO (spec_l15Step.l2 k y0 y1 y2 y3 y4 y5 y6 y7 y8 y9) (spec_l15Step.l2 (k + 1) y0 y1 y2 y3 y4 y5 y6 y7 y8 y9)) ∧ (∀ y0 y1 y2 y3 y4 y5 y6 y7 y8 y9 y10, LeO (spec_l15Step.j3 k y0 y1 y2 y3 y4 y5 y6 y7 y8 y9 y10) (spec_l15Step.j3 (k + 1) y0 y1 y2 y3 y4 y5 y6 y7 y8 y9 y10)) ∧ (∀ y0 y1 y2 y3 y4 y5 y6 y7 y8 y9 y10, LeO (spec_l15Step.j4 k y0 y1 y2 y3 y4 y5 y6 y7 y8 y9 y10) (spec_l15Step.j4 (k + 1) y0 y1 y2 y3 y4 y5 y6 y7 y8 y9 y10))
 | 0 => ⟨fun _ _ _ _ _ _ _ _ _ r h => by simp [spec_l15Step.l0] at h, fun _ _ _ _ _ _ _ _ _ r h => by simp [spec_l15Step.l1] at h, fun _ _ _ _ _ _ _ _ _ _ r h => by simp [spec_l15Step.l2] at h, fun _ _ _ _ _ _ _ _ _ _ _ r h => by simp [spec_l15Step.j3] at h, fun _ _ _ _ _ _ _ _ _ _ _ r h => by simp [spec_l15Step.j4] at h⟩
 | k + 1 => by
  obtain ⟨ih0, ih1, ih2, ih3, ih4⟩ := spec_l15Step.mono_l k
  refine ⟨?_, ?_, ?_, ?_, ?_⟩
  ·intro y0 y1 y2 y3 y4 y5 y6 y7 y8
   unfold spec_l15Step.l0
   repeat' first
   | (with_reducible exact ih0 _ _ _ _ _ _ _ _ _)
   | (with_reducible exact ih1 _ _ _ _ _ _ _ _ _)
   | (with_reducible exact ih2 _ _ _ _ _ _ _ _ _ _)
   | (with_reducible exact ih3 _ _ _ _ _ _ _ _ _ _ _)
   | (with_reducible exact ih4 _ _ _ _ _ _ _ _ _ _ _)
   | (with_reducible exact spec_l14Ones.mono _ _)
   | (with_reducible exact l15Bet.mono _ _ _ _)
   | (with_reducible exact LeO.refl _)
   | (with_reducible exact LeO.none _)
   | (with_reducible refine LeO.ite ?_ ?_)
   | (with_reducible refine LeO.bind ?_ (fun _ => ?_))
   | exact ih0 _ _ _ _ _ _ _ _ _
   | exact ih1 _ _ _ _ _ _ _ _ _
   | exact ih2 _ _ _ _ _ _ _ _ _ _
   | exact ih3 _ _ _ _ _ _ _ _ _ _ _
   | exact ih4 _ _ _ _ _ _ _ _ _ _ _
   | exact spec_l14Ones.mono _ _
   | exact l15Bet.mono _ _ _ _
   | exact LeO.none _
   | refine LeO.ite ?_ ?_
   | refine LeO.bind ?_ (fun _ => ?_)
  ·intro y0 y1 y2 y3 y4 y5 y6 y7 y8
   unfold spec_l15Step.l1
   repeat' first
   | (with_reducible exact ih0 _ _ _ _ _ _ _ _ _)
   | (with_reducible exact ih1 _ _ _ _ _ _ _ _ _)
   | (with_reducible exact ih2 _ _ _ _ _ _ _ _ _ _)
   | (with_reducible exact ih3 _ _ _ _ _ _ _ _ _ _ _)
   | (with_reducible exact ih4 _ _ _ _ _ _ _ _ _ _ _)
   | (with_reducible exact spec_l14Ones.mono _ _)
   | (with_reducible exact l15Bet.mono _ _ _ _)
   | (with_reducible exact LeO.refl _)
   | (with_reducible exact LeO.none _)
   | (with_reducible refine LeO.ite ?_ ?_)
   | (with_reducible refine LeO.bind ?_ (fun _ => ?_))
   | exact ih0 _ _ _ _ _ _ _ _ _
   | exact ih1 _ _ _ _ _ _ _ _ _
   | exact ih2 _ _ _ _ _ _ _ _ _ _
   | exact ih3 _ _ _ _ _ _ _ _ _ _ _
   | exact ih4 _ _ _ _ _ _ _ _ _ _ _
   | exact spec_l14Ones.mono _ _
   | exact l15Bet.mono _ _ _ _
   | exact LeO.none _
   | refine LeO.ite ?_ ?_
   | refine LeO.bind ?_ (fun _ => ?_)
  ·intro y0 y1 y2 y3 y4 y5 y6 y7 y8 y9
   unfold spec_l15Step.l2
   repeat' first
   | (with_reducible exact ih0 _ _ _ _ _ _ _ _ _)
   | (with_reducible exact ih1 _ _ _ _ _ _ _ _ _)
   | (with_reducible exact ih2 _ _ _ _ _ _ _ _ _ _)
   | (with_reducible exact ih3 _ _ _ _ _ _ _ _ _ _ _)
   | (with_reducible exact ih4 _ _ _ _ _ _ _ _ _ _ _)
   | (with_reducible exact spec_l14Ones.mono _ _)
   | (with_reducible exact l15Bet.mono _ _ _ _)
   | (with_reducible exact LeO.refl _)
   | (with_reducible exact LeO.none _)
   | (with_reducible refine LeO.ite ?_ ?_)
   | (with_reducible refine LeO.bind ?_ (fun _ => ?_))
   | exact ih0 _ _ _ _ _ _ _ _ _
   | exact ih1 _ _ _ _ _ _ _ _ _
   | exact ih2 _ _ _ _ _ _ _ _ _ _
   | exact ih3 _ _ _ _ _ _ _ _ _ _ _
   | exact ih4 _ _ _ _ _ _ _ _ _ _ _
   | exact spec_l14Ones.mono _ _
   | exact l15Bet.mono _ _ _ _
   | exact LeO.none _
   | refine LeO.ite ?_ ?_
   | refine LeO.bind ?_ (fun _ => ?_)
  ·intro y0 y1 y2 y3 y4 y5 y6 y7 y8 y9 y10
   unfold spec_l15Step.j3
   repeat' first
   | (with_reducible exact ih0 _ _ _ _ _ _ _ _ _)
   | (with_reducible exact ih1 _ _ _ _ _ _ _ _ _)
   | (with_reducible exact ih2 _ _ _ _ _ _ _ _ _ _)
   | (with_reducible exact ih3 _ _ _ _ _ _ _ _ _ _ _)
   | (with_reducible exact ih4 _ _ _ _ _ _ _ _ _ _ _)
   | (with_reducible exact spec_l14Ones.mono _ _)
   | (with_reducible exact l15Bet.mono _ _ _ _)
   | (with_reducible exact LeO.refl _)
   | (with_reducible exact LeO.none _)
   | (with_reducible refine LeO.ite ?_ ?_)
   | (with_reducible refine LeO.bind ?_ (fun _ => ?_))
   | exact ih0 _ _ _ _ _ _ _ _ _
   | exact ih1 _ _ _ _ _ _ _ _ _
   | exact ih2 _ _ _ _ _ _ _ _ _ _
   | exact ih3 _ _ _ _ _ _ _ _ _ _ _
   | exact ih4 _ _ _ _ _ _ _ _ _ _ _
   | exact spec_l14Ones.mono _ _
   | exact l15Bet.mono _ _ _ _
   | exact LeO.none _
   | refine LeO.ite ?_ ?_
   | refine LeO.bind ?_ (fun _ => ?_)
  ·intro y0 y1 y2 y3 y4 y5 y6 y7 y8 y9 y10
   unfold spec_l15Step.j4
   repeat' first
   | (with_reducible exact ih0 _ _ _ _ _ _ _ _ _)
   | (with_reducible exact ih1 _ _ _ _ _ _ _ _ _)
   | (with_reducible exact ih2 _ _ _ _ _ _ _ _ _ _)
   | (with_reducible exact ih3 _ _ _ _ _ _ _ _ _ _ _)
   | (with_reducible exact ih4 _ _ _ _ _ _ _ _ _ _ _)
   | (with_reducible exact spec_l14Ones.mono _ _)
   | (with_reducible exact l15Bet.mono _ _ _ _)
   | (with_reducible exact LeO.refl _)
   | (with_reducible exact LeO.none _)
   | (with_reducible refine LeO.ite ?_ ?_)
   | (with_reducible refine LeO.bind ?_ (fun _ => ?_))
   | exact ih0 _ _ _ _ _ _ _ _ _
   | exact ih1 _ _ _ _ _ _ _ _ _
   | exact ih2 _ _ _ _ _ _ _ _ _ _
   | exact ih3 _ _ _ _ _ _ _ _ _ _ _
   | exact ih4 _ _ _ _ _ _ _ _ _ _ _
   | exact spec_l14Ones.mono _ _
   | exact l15Bet.mono _ _ _ _
   | exact LeO.none _
   | refine LeO.ite ?_ ?_
   | refine LeO.bind ?_ (fun _ => ?_)
theorem spec_l15Step.mono : ∀ a0 a1 a2 a3 a4 a5 a6 k, LeO (spec_l15Step.f k a0 a1 a2 a3 a4 a5 a6) (spec_l15Step.f (k + 1) a0 a1 a2 a3 a4 a5 a6) := by
 intro a0 a1 a2 a3 a4 a5 a6 k
 obtain ⟨ih0, ih1, ih2, ih3, ih4⟩ := spec_l15Step.mono_l k
 unfold spec_l15Step.f
 repeat' first
  | (with_reducible exact ih0 _ _ _ _ _ _ _ _ _)
  | (with_reducible exact ih1 _ _ _ _ _ _ _ _ _)
  | (with_reducible exact ih2 _ _ _ _ _ _ _ _ _ _)
  | (with_reducible exact ih3 _ _ _ _ _ _ _ _ _ _ _)
  | (with_reducible exact ih4 _ _ _ _ _ _ _ _ _ _ _)
  | (with_reducible exact spec_l14Ones.mono _ _)
  | (with_reducible exact l15Bet.mono _ _ _ _)
  | (with_reducible exact LeO.refl _)
  | (with_reducible exact LeO.none _)
  | (with_reducible refine LeO.ite ?_ ?_)
  | (with_reducible refine LeO.bind ?_ (fun _ => ?_))
  | exact ih0 _ _ _ _ _ _ _ _ _
  | exact ih1 _ _ _ _ _ _ _ _ _
  | exact ih2 _ _ _ _ _ _ _ _ _ _
  | exact ih3 _ _ _ _ _ _ _ _ _ _ _
  | exact ih4 _ _ _ _ _ _ _ _ _ _ _
  | exact spec_l14Ones.mono _ _
  | exact l15Bet.mono _ _ _ _
  | exact LeO.none _
  | refine LeO.ite ?_ ?_
  | refine LeO.bind ?_ (fun _ => ?_)
set_option maxHeartbeats 8000000 in
set_option maxRecDepth 100000 in
theorem spec_l15Step.calls (k : Nat) (a0 : Int) (a1 : Int) (a2 : Int) (A3 : Option Addr) (c3 : Nat) (l3 : List (S54)) (a4 : Int) (a5 : Int) (a6 : Bool) (r : List (S54)) (w : World) (hr3 : Kd.C k54 w A3 l3.length l3) (hc3 : l3.length ≤ c3) (h : spec_l15Step.f k a0 a1 a2 l3 a4 a5 a6 = some r) :
 Calls Try.prog 31 #[.int .i64 a0, .int .i64 a1, .int .i64 a2, .slice A3 l3.length c3, .int .i64 a4, .int .i64 a5, .bool a6] w fun e w' => ∃ v0_ : Value, e = .returned (v0_) ∧ Kd.S k54 54 w' w.heap.size (fun _ => True) v0_ r ∧ Below w.heap.size w w' := by
 have hu54 := Try.underlying54
 have HR3 := Aside0.mk hr3
 have HC3 := Aside0.mk hc3
 clear hr3 hc3
 have HB := Aside0.mk (Below.refl w.heap.size w)
 have H : (if 0 ≤ (l3.length : Int) then (if ((l3.length : Int) : Int).toNat ≤ 7036874417766 then (spec_l15Step.l0 k a0 a1 a2 l3 a4 a5 a6 (List.replicate ((l3.length : Int) : Int).toNat z54) 0) else (none)) else (none)) = some r := h
 clear h
 by_cases c8 : 0 ≤ (l3.length : Int)
 case neg =>
  rw [if_neg c8] at H
  exact absurd H (by simp)
 rw [if_pos c8] at H
 have c8b0 := eq_true c8
 have c8b1 : decide (0 ≤ (l3.length : Int)) = true := zE c8
 clear c8
 by_cases c9 : ((l3.length : Int) : Int).toNat ≤ 7036874417766
 case neg =>
  rw [if_neg c9] at H
  exact absurd H (by simp)
 rw [if_pos c9] at H
 have c9b0 := eq_true c9
 have c9b1 : decide (((l3.length : Int) : Int).toNat ≤ 7036874417766) = true := zE c9
 clear c9
 obtain ⟨y111, hy111⟩ : ∃ y_ : List (S54), y_ = (List.replicate ((l3.length : Int) : Int).toNat z54) := ⟨_, rfl⟩
 replace H : (spec_l15Step.l0 k a0 a1 a2 l3 a4 a5 a6 y111 0) = some r := by first | (rw [hy111]; with_reducible exact H) | (have H2_ := (Option.bind_some _ _).symm.trans H; rw [hy111]; with_reducible exact H2_) | (have H2_ := (Option.bind_some _ _).symm.trans H; with_reducible exact H2_) | with_reducible exact H | (rw [hy111]; exact H) | exact H
 have Ny111 := Aside0.mk hy111
 clear hy111
 have H' := Aside0.mk H
 clear H
 go_enter Try.func31, Try.ntmps31
 go_wp2_with (first | ((with_reducible refine gate_dst (N := 24) rfl ?_); refine Kd.S_make k54 _ 54 rfl (N := 24) rfl 51 _ _ rfl (l3.length : Int) rfl rfl Try.underlying51 (.agg #[(.bool false), (.int .i64 0), (.slice none 0 0)]) 40 info54 rfl (by decide) (by omega) z54 (ok := fun _ => True) (okp := fun _ => True) (k54_mkM _ _ _ z54 (Kd.R_nil _ _ _ _ _)) (fun _ hk => hk) trivial (zT (by first | (with_reducible assumption) | assumption)) (Nat.le_trans (Nat.mul_le_mul_right _ (zT (by first | (with_reducible assumption) | assumption) : (l3.length : Int).toNat ≤ 7036874417766)) (by omega)) (Below.refl _ _) (Nat.le_refl _) ?_; intro v112 w10 ho11 hb hg_ hnew_; clear hg_ hnew_; (first | rw [← Ny111.out] at ho11 | (simp only [Int.reduceToNat] at ho11; rw [← Ny111.out] at ho11)); have n0_ := Aside0.mk (Kd.S_lower ho11 (below_size (by repeat (first | (with_reducible first | exact HB.out | apply zBa | apply zBn | apply zBd) | exact HB.out)))); have n1_ := Aside0.mk (below_step (by repeat (first | (with_reducible first | exact HB.out | apply zBa | apply zBn | apply zBd) | exact HB.out)) hb); clear HB; have HO113 := n0_; have HB := n1_; clear n0_ n1_; clear hb ho11))
 (try simp only [Act.put, List.setIfInBounds_toArray, List.set_cons_zero, List.set_cons_succ])
 go_loopg [16] k (fun kq v16 w' => ∃ (x15_1 : List (S54)) (x16_1 : Int), v16 = .int .i64 x16_1 ∧ Aside0 (spec_l15Step.l0 kq a0 a1 a2 l3 a4 a5 a6 x15_1 x16_1 = some r) ∧ Aside0 (kq ≤ k) ∧ Aside0 (Kd.S k54 54 w' w.heap.size (fun _ => True) v112 x15_1) ∧ Aside0 (Below w.heap.size w w'))
 case atStart => exact ⟨(y111), (0), (by first | rfl | (simp; done) | (simp [*]; done)), H', ⟨Nat.le_refl _⟩, ⟨by (with_reducible repeat (first | apply Kd.S_alloc | apply Kd.S_drewN | apply Kd.S_drew)); first | exact HO113.out | (subst_vars; exact HO113.out)⟩, ⟨by repeat (first | (with_reducible first | exact HB.out | apply zBa | apply zBn | apply zBd) | exact HB.out)⟩⟩
 case round =>
  clear H'
  try clear p2
  try clear c3
  try clear c8
  try clear c8b0
  try clear c8b1
  try clear c9
  try clear c9b0
  try clear c9b1
  obtain ⟨x15_1, x16_1, rfl, HA, HK1, HO_15, HB⟩ := hrel
  cases gk with
  | zero => exact absurd HA.out (by simp [spec_l15Step.l0])
  | succ k1 =>
   have H := HA.out
   clear HA
   simp only [spec_l15Step.l0] at H
   by_cases c12 : x16_1 < (x15_1.length : Int)
   case pos =>
    rw [if_pos c12] at H
    have c12b0 : decide (x16_1 < (x15_1.length : Int)) = true := zE c12
    clear c12
    by_cases c13 : 0 ≤ x16_1
    case neg =>
     rw [if_neg c13] at H
     exact absurd H (by simp)
    rw [if_pos c13] at H
    have c13b0 : decide (0 ≤ x16_1) = true := zE c13
    clear c13
    obtain ⟨y114, hy114⟩ : ∃ y_ : List (S54), y_ = (x15_1.set (x16_1 : Int).toNat (⟨true, (rd_T54 x15_1 x16_1).f1, (rd_T54 x15_1 x16_1).f2⟩ : S54)) := ⟨_, rfl⟩
    replace H : (spec_l15Step.l0 k1 a0 a1 a2 l3 a4 a5 a6 y114 (wrap64 (x16_1 + 1))) = some r := by first | (rw [hy114]; with_reducible exact H) | (have H2_ := (Option.bind_some _ _).symm.trans H; rw [hy114]; with_reducible exact H2_) | (have H2_ := (Option.bind_some _ _).symm.trans H; with_reducible exact H2_) | with_reducible exact H | (rw [hy114]; exact H) | exact H
    have Ny114 := Aside0.mk hy114
    clear hy114
    have H' := Aside0.mk H
    clear H
    obtain ⟨Ao15, co15, eo15⟩ := Kd.S_slice HO_15.out
    subst eo15
    have p14 : 0 ≤ (x16_1 : Int) := zT (by first | (with_reducible assumption) | assumption)
    have q14 : (x16_1 : Int) < ((x15_1.length : Int) : Int) := zT (by first | (with_reducible assumption) | assumption)
    obtain ⟨go14, co14, eo14, gb14, gl14, cl14, HG14⟩ := Kd.S_form HO_15.out (by omega)
    (first | cases eo14 | (injection eo14 with ea_ en_ ec_; (first | subst ea_ | (injection ea_ with ea_; subst ea_)); subst ec_; clear en_))
    have GB14 := Aside0.mk gb14
    have GG14 := Aside0.mk HG14
    clear gb14 gl14 HG14
    obtain ⟨_, ce14, hcl14, hM14, hcc14, hfr14, _, _⟩ := Kd.S_elem HO_15.out z54 (x16_1 : Int) p14 q14
    obtain ⟨ve14_2, rfl, ge14_2⟩ := k54_openM hM14
    have hx14_0 : wr.cell? ⟨go14, (x16_1 : Int).toNat * 3, none⟩ = some (.bool ((rd_T54 x15_1 x16_1).f0)) := hcc14 0 _ rfl
    have hx14_1 : wr.cell? ⟨go14, (x16_1 : Int).toNat * 3 + 1, none⟩ = some (.int .i64 ((rd_T54 x15_1 x16_1).f1)) := hcc14 1 _ rfl
    have hx14_2 : wr.cell? ⟨go14, (x16_1 : Int).toNat * 3 + 2, none⟩ = some (ve14_2) := hcc14 2 _ rfl
    have hf14_0 : wr.frozen? ⟨go14, (x16_1 : Int).toNat * 3, none⟩ = false := hfr14 0
    have hf14_1 : wr.frozen? ⟨go14, (x16_1 : Int).toNat * 3 + 1, none⟩ = false := hfr14 1
    have hf14_2 : wr.frozen? ⟨go14, (x16_1 : Int).toNat * 3 + 2, none⟩ = false := hfr14 2
    (try clear hcl14 hcc14 hfr14); (try clear hM14)
    replace p14 := eq_true p14
    replace q14 := eq_true q14
    have HX16 := Aside0.mk (show Kd.S k54 54 wr w.heap.size (fun k_ => ((fun _ => True)) k_ ∧ ¬ ((fun _ => False)) k_) (.slice (some ⟨go14, 0, none⟩) x15_1.length co15) x15_1 from (by (with_reducible repeat (first | apply Kd.S_alloc | apply Kd.S_drewN | apply Kd.S_drew)); exact Kd.S_mono HO_15.out (fun k_ hk => ⟨trivial, fun e_ => e_⟩)))
    obtain ⟨oki16, ce16, hcl16, hM16, hcc16, hfr16, hoki16, hH16⟩ := Kd.S_elem HX16.out z54 (x16_1 : Int) (zT (by first | (with_reducible assumption) | assumption)) (by have h_ : (x16_1 : Int) < ((x15_1.length : Int) : Int) := zT (by first | (with_reducible assumption) | assumption); first | exact h_ | (have e_ := (Kd.S_reads' HO_15.out).1; omega) | simpa using h_)
    obtain ⟨ve16_2, rfl, ge16_2⟩ := k54_openM hM16
    have HP16 := Kd.S_seg hH16 (zT (by first | (with_reducible assumption) | assumption)) (by have h_ : (x16_1 : Int) < ((x15_1.length : Int) : Int) := zT (by first | (with_reducible assumption) | assumption); first | exact h_ | (have e_ := (Kd.S_reads' HO_15.out).1; omega) | simpa using h_) (seg := [.bool true]) (j := 0) (show 1 ≤ 3 from by decide) (x' := (⟨true, (rd_T54 x15_1 x16_1).f1, (rd_T54 x15_1 x16_1).f2⟩ : S54)) (k54_mkM _ _ _ (⟨true, (rd_T54 x15_1 x16_1).f1, (rd_T54 x15_1 x16_1).f2⟩ : S54) (Kd.R_mono ge16_2 (fun _ h_ => Or.inl h_))) (fun _ hk => hk) (fun k_ hk_ => hk_.elim)
    have hx16_0 := hcc16 0 _ rfl
    (try simp only [show (k54).sz = 3 from rfl, Nat.mul_one, Nat.add_zero] at hx16_0)
    have hf16_0 := hfr16 0
    (try simp only [show (k54).sz = 3 from rfl, Nat.mul_one, Nat.add_zero] at hf16_0)
    (try clear hcl16 hcc16 hfr16 hoki16 hH16); (try clear hM16)
    go_wp2_with (first | ((with_reducible refine gate_store (t := 4) (p := 34) rfl ?_); refine store_event (t := 4) (p := 34) (v := ?vo_w17) (w1 := (wr.setCell ⟨go14, (x16_1 : Int).toNat * 3, none⟩ (.bool true))) ?hg ?ho ?hn ?hr ?_; (case ho => rfl); (case hg => rfl); (case hn => rfl); (case hr => first | (go_simp; done) | (go_simp; rfl)); intro w17 hw; have hg : wr.grownBy w17 (some go14) := (by rw [hw]; exact HP16.2); have hp_ : Kd.S k54 54 w17 w.heap.size (fun _ => True) (.slice (some ⟨go14, 0, none⟩) x15_1.length co15) y114 := (by rw [hw, Ny114.out]; exact HP16.1); clear HP16; have n0_ := Aside0.mk (hp_); have n1_ := Aside0.mk ((by rw [hw]; exact zBs (HB.out) GB14.out : Below w.heap.size w w17)); clear HO_15; clear HB; have HO_15 := n0_; have HB := n1_; clear n0_ n1_; clear hg hw hp_))
    go_roundg k1
    case measure => have := HK1.out; omega
    case rel => exact ⟨(y114), (wrap64 (x16_1 + 1)), (by first | rfl | (simp; done) | (simp [*]; done)), H', ⟨by have := HK1.out; omega⟩, ⟨by (with_reducible repeat (first | apply Kd.S_alloc | apply Kd.S_drewN | apply Kd.S_drew)); first | exact HO_15.out | (subst_vars; exact HO_15.out)⟩, ⟨by repeat (first | (with_reducible first | exact HB.out | apply zBa | apply zBn | apply zBd) | exact HB.out)⟩⟩
   rw [if_neg c12] at H
   have c12b0 : decide (x16_1 < (x15_1.length : Int)) = false := decide_eq_false c12
   clear c12
   have H' := Aside0.mk H
   clear H
   obtain ⟨Ao18, co18, eo18⟩ := Kd.S_slice HO_15.out
   subst eo18
   go_wp2
   (try simp only [Act.put, List.setIfInBounds_toArray, List.set_cons_zero, List.set_cons_succ])
   go_loopg [17] k1 (fun kq v17 w' => ∃ (x15_2 : List (S54)) (x17_2 : Int), v17 = .int .i64 x17_2 ∧ Aside0 (spec_l15Step.l1 kq a0 a1 a2 l3 a4 a5 a6 x15_2 x17_2 = some r) ∧ Aside0 (kq ≤ k1) ∧ Aside0 (Kd.S k54 54 w' w.heap.size (fun _ => True) (.slice Ao18 x15_1.length co18) x15_2) ∧ Aside0 (Below w.heap.size w w'))
   case atStart => exact ⟨(x15_1), (0), (by first | rfl | (simp; done) | (simp [*]; done)), H', ⟨Nat.le_refl _⟩, ⟨by (with_reducible repeat (first | apply Kd.S_alloc | apply Kd.S_drewN | apply Kd.S_drew)); first | exact HO_15.out | (subst_vars; exact HO_15.out)⟩, ⟨by repeat (first | (with_reducible first | exact HB.out | apply zBa | apply zBn | apply zBd) | exact HB.out)⟩⟩
   case round =>
    clear H'
    try clear c1
    try clear p1
    try clear q1
    try clear hx1
    try clear p2
    try clear c3
    try clear p6
    try clear c8
    try clear c8b0
    try clear c8b1
    try clear c9
    try clear c9b0
    try clear c9b1
    try clear c12
    try clear c12b0
    try clear c13
    try clear c13b0
    try clear c14
    try clear p14
    try clear q14
    try clear hx14
    try clear hf14
    try clear c16
    try clear hx16
    try clear hf16
    try clear hx14_0
    try clear hx14_1
    try clear hx14_2
    try clear hx16_0
    try clear p14
    try clear p2
    try clear q14
    obtain ⟨x15_2, x17_2, rfl, HA, HK2, HO_15, HB⟩ := hrel
    have hl15_2 := (Kd.S_reads' HO_15.out).1
    rw [hl15_2] at HO_15
    (try simp only [hl15_2])
    cases gk with
    | zero => exact absurd HA.out (by simp [spec_l15Step.l1])
    | succ k2 =>
     have H := HA.out
     clear HA
     simp only [spec_l15Step.l1] at H
     by_cases c19 : x17_2 < (l3.length : Int)
     case neg =>
      rw [if_neg c19] at H
      have c19b0 : decide (x17_2 < (l3.length : Int)) = false := decide_eq_false c19
      (try (have c19w_hl15_2 := c19b0; simp only [hl15_2] at c19w_hl15_2))
      clear c19
      obtain rfl := Option.some.inj H
      go_wp2
      go_ret
      exact ⟨_, by first | rfl | (simp [errW_none, errW_some] <;> rfl) | (simp [*, errW_none, errW_some] <;> rfl), by (with_reducible repeat (first | apply Kd.S_alloc | apply Kd.S_drewN | apply Kd.S_drew)); first | exact HO_15.out | (subst_vars; exact HO_15.out), by repeat (first | (with_reducible first | exact HB.out | apply zBa | apply zBn | apply zBd) | exact HB.out)⟩
     rw [if_pos c19] at H
     have c19b0 : decide (x17_2 < (l3.length : Int)) = true := zE c19
     (try (have c19w_hl15_2 := c19b0; simp only [hl15_2] at c19w_hl15_2))
     clear c19
     have H' := Aside0.mk H
     clear H
     go_wp2
     (try simp only [Act.put, List.setIfInBounds_toArray, List.set_cons_zero, List.set_cons_succ])
     go_loopg [18] k2 (fun kq v18 w' => ∃ (x15_3 : List (S54)) (x18_3 : Int), v18 = .int .i64 x18_3 ∧ Aside0 (spec_l15Step.l2 kq a0 a1 a2 l3 a4 a5 a6 x15_3 x17_2 x18_3 = some r) ∧ Aside0 (kq ≤ k2) ∧ Aside0 (Kd.S k54 54 w' w.heap.size (fun _ => True) (.slice Ao18 x15_2.length co18) x15_3) ∧ Aside0 (Below w.heap.size w w'))
     case atStart => exact ⟨(x15_2), (0), (by first | rfl | (simp; done) | (simp [*]; done)), H', ⟨Nat.le_refl _⟩, ⟨by (try simp only [hl15_2]); (with_reducible repeat (first | apply Kd.S_alloc | apply Kd.S_drewN | apply Kd.S_drew)); first | exact HO_15.out | (subst_vars; exact HO_15.out)⟩, ⟨by repeat (first | (with_reducible first | exact HB.out | apply zBa | apply zBn | apply zBd) | exact HB.out)⟩⟩
     case round =>
      clear H'
      try clear c1
      try clear p1
      try clear q1
      try clear hx1
      try clear p2
      try clear c3
      try clear p6
      try clear c8
      try clear c8b0
      try clear c8b1
      try clear c9
      try clear c9b0
      try clear c9b1
      try clear c12
      try clear c12b0
      try clear c13
      try clear c13b0
      try clear c14
      try clear p14
      try clear q14
      try clear hx14
      try clear hf14
      try clear c16
      try clear hx16
      try clear hf16
      try clear c19
      try clear c19b0
      try clear hx14_0
      try clear hx14_1
      try clear hx14_2
      try clear hx16_0
      try clear p1
      try clear p14
      try clear p2
      try clear p6
      try clear q1
      try clear q14
      obtain ⟨x15_3, x18_3, rfl, HA, HK3, HO_15, HB⟩ := hrel
      have hl15_3 := (Kd.S_reads' HO_15.out).1
      rw [hl15_3] at HO_15
      (try simp only [hl15_3])
      cases gk with
      | zero => exact absurd HA.out (by simp [spec_l15Step.l2])
      | succ k3 =>
       have H := HA.out
       clear HA
       simp only [spec_l15Step.l2] at H
       have HC20 := Aside0.mk H
       clear H
       go_upto_region 10 with (fail)
       go_cut [50] (fun v50 wc => ∃ (kq : Nat) (x50_19 : Bool), v50 = .bool x50_19 ∧ Aside0 (spec_l15Step.j3 kq a0 a1 a2 l3 a4 a5 a6 x15_3 x17_2 x18_3 x50_19 = some r) ∧ Aside0 (kq ≤ k3) ∧ Aside0 (Kd.S k54 54 wc w.heap.size (fun _ => True) (.slice Ao18 x15_3.length co18) x15_3) ∧ Aside0 (Below w.heap.size w wc))
       case first =>
        have H := HC20.out
        clear HC20
        by_cases c21 : x18_3 < 2
        case neg =>
         rw [if_neg c21] at H
         have c21b0 : decide (x18_3 < 2) = false := decide_eq_false c21
         (try (have c21w_hl15_2 := c21b0; simp only [hl15_2] at c21w_hl15_2))
         (try (have c21w_hl15_3 := c21b0; simp only [hl15_3] at c21w_hl15_3))
         clear c21
         (first | rw [c21b0] | (simp only [i64_w, i32_w]; rw [c21b0]) | skip)
         have H' := Aside0.mk H
         clear H
         go_wp2
         go_meet
         case rel => exact ⟨_, (false), (by first | rfl | (simp; done) | (simp [*]; done)), H', ⟨by have := HK1.out; have := HK2.out; have := HK3.out; first | omega | exact Nat.le_refl _⟩, ⟨by (try simp only [hl15_2]); (try simp only [hl15_3]); (with_reducible repeat (first | apply Kd.S_alloc | apply Kd.S_drewN | apply Kd.S_drew)); first | exact HO_15.out | (subst_vars; exact HO_15.out)⟩, ⟨by repeat (first | (with_reducible first | exact HB.out | apply zBa | apply zBn | apply zBd) | exact HB.out)⟩⟩
        rw [if_pos c21] at H
        have c21b0 : decide (x18_3 < 2) = true := zE c21
        (try (have c21w_hl15_2 := c21b0; simp only [hl15_2] at c21w_hl15_2))
        (try (have c21w_hl15_3 := c21b0; simp only [hl15_3] at c21w_hl15_3))
        clear c21
        (first | rw [c21b0] | (simp only [i64_w, i32_w]; rw [c21b0]) | skip)
        by_cases c22 : 0 ≤ x17_2
        case neg =>
         rw [if_neg c22] at H
         exact absurd H (by simp)
        rw [if_pos c22] at H
        have c22b0 : decide (0 ≤ x17_2) = true := zE c22
        (try (have c22w_hl15_2 := c22b0; simp only [hl15_2] at c22w_hl15_2))
        (try (have c22w_hl15_3 := c22b0; simp only [hl15_3] at c22w_hl15_3))
        clear c22
        by_cases c23 : x17_2 < (l3.length : Int)
        case neg =>
         rw [if_neg c23] at H
         exact absurd H (by simp)
        rw [if_pos c23] at H
        have c23b0 : decide (x17_2 < (l3.length : Int)) = true := zE c23
        (try (have c23w_hl15_2 := c23b0; simp only [hl15_2] at c23w_hl15_2))
        (try (have c23w_hl15_3 := c23b0; simp only [hl15_3] at c23w_hl15_3))
        clear c23
        have H' := Aside0.mk H
        clear H
        have p115 : 0 ≤ (x17_2 : Int) := zT (by first | (with_reducible assumption) | assumption)
        have q115 : x17_2 < (l3.length : Int) := zT (by first | (with_reducible assumption) | assumption)
        obtain ⟨ad115, A115_2, c115_2, e115, hx115_0, hx115_1, hx115_2, hl115_2, hi115_2⟩ := at_T54 HR3.out x17_2 p115 q115
        cases e115
        replace hx115_0 := (HB.out.cell (zW w _ hx115_0)).trans hx115_0
        replace hx115_1 := (HB.out.cell (zW w _ hx115_1)).trans hx115_1
        replace hx115_2 := (HB.out.cell (zW w _ hx115_2)).trans hx115_2
        have HR115_2 := Aside0.mk hi115_2
        have HC115_2 := Aside0.mk hl115_2
        clear hi115_2 hl115_2
        replace p115 := eq_true p115
        replace q115 := eq_true q115
        go_wp2
        go_meet
        case rel => exact ⟨_, (!((rd_T54 l3 x17_2).f0)), (by first | rfl | (simp; done) | (simp [*]; done)), H', ⟨by have := HK1.out; have := HK2.out; have := HK3.out; first | omega | exact Nat.le_refl _⟩, ⟨by (try simp only [hl15_2]); (try simp only [hl15_3]); (with_reducible repeat (first | apply Kd.S_alloc | apply Kd.S_drewN | apply Kd.S_drew)); first | exact HO_15.out | (subst_vars; exact HO_15.out)⟩, ⟨by repeat (first | (with_reducible first | exact HB.out | apply zBa | apply zBn | apply zBd) | exact HB.out)⟩⟩
       case rest =>
        clear HC20
        try clear c1
        try clear p1
        try clear q1
        try clear hx1
        try clear c2
        try clear p2
        try clear c3
        try clear p6
        try clear c8
        try clear c8b0
        try clear c8b1
        try clear c9
        try clear c9b0
        try clear c9b1
        try clear c11
        try clear p11
        try clear q11
        try clear hx11
        try clear c12
        try clear c12b0
        try clear c13
        try clear c13b0
        try clear c14
        try clear p14
        try clear q14
        try clear hx14
        try clear hf14
        try clear c16
        try clear hx16
        try clear hf16
        try clear c19
        try clear c19b0
        try clear c21
        try clear c21b0
        try clear c22
        try clear c22b0
        try clear c23
        try clear c23b0
        try clear hx115_0
        try clear hx115_1
        try clear hx115_2
        try clear hx14_0
        try clear hx14_1
        try clear hx14_2
        try clear hx16_0
        try clear p1
        try clear p115
        try clear p14
        try clear p2
        try clear p6
        try clear q1
        try clear q115
        try clear q14
        obtain ⟨kq, x50_19, rfl, HA, HJ19, HO_15, HB⟩ := hcut
        cases kq with
        | zero => exact absurd HA.out (by simp [spec_l15Step.j3])
        | succ kj19 =>
         have H := HA.out
         clear HA
         simp only [spec_l15Step.j3] at H
         by_cases c24 : x50_19 = true
         case neg =>
          replace c24 := Bool.eq_false_iff.mpr c24
          subst c24
          have H1 : (spec_l15Step.l1 kj19 a0 a1 a2 l3 a4 a5 a6 x15_3 (wrap64 (x17_2 + 1))) = some r := by rw [if_neg (show ¬ (false = true) by decide)] at H; exact H
          clear H
          have H := H1
          clear H1
          have H' := Aside0.mk H
          clear H
          go_wp2
          (try simp only [← hl15_2, ← hl15_3])
          go_roundg kj19
          case measure => have := HK1.out; have := HK2.out; have := HK3.out; have := HJ19.out; omega
          case rel => exact ⟨(x15_3), (wrap64 (x17_2 + 1)), (by first | rfl | (simp; done) | (simp [*]; done)), H', ⟨by have := HK1.out; have := HK2.out; have := HK3.out; have := HJ19.out; omega⟩, ⟨by (try simp only [hl15_2]); (try simp only [hl15_3]); (with_reducible repeat (first | apply Kd.S_alloc | apply Kd.S_drewN | apply Kd.S_drew)); first | exact HO_15.out | (subst_vars; exact HO_15.out)⟩, ⟨by repeat (first | (with_reducible first | exact HB.out | apply zBa | apply zBn | apply zBd) | exact HB.out)⟩⟩
         subst c24
         have H1 : (if a6 = true then (spec_l15Step.j4 kj19 a0 a1 a2 l3 a4 a5 a6 x15_3 x17_2 x18_3 (x18_3 == 1)) else (spec_l15Step.j4 kj19 a0 a1 a2 l3 a4 a5 a6 x15_3 x17_2 x18_3 false)) = some r := by rw [if_pos rfl] at H; exact H
         clear H
         have H := H1
         clear H1
         have HC25 := Aside0.mk H
         clear H
         go_upto_region 12 with (fail)
         go_cut [57] (fun v57 wc => ∃ (kq : Nat) (x57_24 : Bool), v57 = .bool x57_24 ∧ Aside0 (spec_l15Step.j4 kq a0 a1 a2 l3 a4 a5 a6 x15_3 x17_2 x18_3 x57_24 = some r) ∧ Aside0 (kq ≤ kj19) ∧ Aside0 (Kd.S k54 54 wc w.heap.size (fun _ => True) (.slice Ao18 x15_3.length co18) x15_3) ∧ Aside0 (Below w.heap.size w wc))
         case first =>
          have H := HC25.out
          clear HC25
          by_cases c26 : a6 = true
          case pos =>
           subst c26
           have H1 : (spec_l15Step.j4 kj19 a0 a1 a2 l3 a4 a5 true x15_3 x17_2 x18_3 (x18_3 == 1)) = some r := by rw [if_pos rfl] at H; exact H
           clear H
           have H := H1
           clear H1
           have H' := Aside0.mk H
           clear H
           go_wp2
           go_meet
           case rel => exact ⟨_, ((x18_3 == 1)), (by first | rfl | (simp; done) | (simp [*]; done)), H', ⟨by have := HK1.out; have := HK2.out; have := HK3.out; have := HJ19.out; first | omega | exact Nat.le_refl _⟩, ⟨by (try simp only [hl15_2]); (try simp only [hl15_3]); (with_reducible repeat (first | apply Kd.S_alloc | apply Kd.S_drewN | apply Kd.S_drew)); first | exact HO_15.out | (subst_vars; exact HO_15.out)⟩, ⟨by repeat (first | (with_reducible first | exact HB.out | apply zBa | apply zBn | apply zBd) | exact HB.out)⟩⟩
          replace c26 := Bool.eq_false_iff.mpr c26
          subst c26
          have H1 : (spec_l15Step.j4 kj19 a0 a1 a2 l3 a4 a5 false x15_3 x17_2 x18_3 false) = some r := by rw [if_neg (show ¬ (false = true) by decide)] at H; exact H
          clear H
          have H := H1
          clear H1
          have H' := Aside0.mk H
          clear H
          go_wp2
          go_meet
          case rel => exact ⟨_, (false), (by first | rfl | (simp; done) | (simp [*]; done)), H', ⟨by have := HK1.out; have := HK2.out; have := HK3.out; have := HJ19.out; first | omega | exact Nat.le_refl _⟩, ⟨by (try simp only [hl15_2]); (try simp only [hl15_3]); (with_reducible repeat (first | apply Kd.S_alloc | apply Kd.S_drewN | apply Kd.S_drew)); first | exact HO_15.out | (subst_vars; exact HO_15.out)⟩, ⟨by repeat (first | (with_reducible first | exact HB.out | apply zBa | apply zBn | apply zBd) | exact HB.out)⟩⟩
         case rest =>
          clear HC25
          try clear c1
          try clear p1
          try clear q1
          try clear hx1
          try clear c2
          try clear p2
          try clear c3
          try clear p6
          try clear c8
          try clear c8b0
          try clear c8b1
          try clear c9
          try clear c9b0
          try clear c9b1
          try clear c11
          try clear p11
          try clear q11
          try clear hx11
          try clear c12
          try clear c12b0
          try clear c13
          try clear c13b0
          try clear c14
          try clear p14
          try clear q14
          try clear hx14
          try clear hf14
          try clear c16
          try clear hx16
          try clear hf16
          try clear c19
          try clear c19b0
          try clear c21
          try clear c21b0
          try clear c22
          try clear c22b0
          try clear c23
          try clear c23b0
          try clear c24
          try clear c26
          try clear hx115_0
          try clear hx115_1
          try clear hx115_2
          try clear hx14_0
          try clear hx14_1
          try clear hx14_2
          try clear hx16_0
          try clear p1
          try clear p11
          try clear p115
          try clear p14
          try clear p2
          try clear p6
          try clear q1
          try clear q11
          try clear q115
          try clear q14
          obtain ⟨kq, x57_24, rfl, HA, HJ24, HO_15, HB⟩ := hcut
          cases kq with
          | zero => exact absurd HA.out (by simp [spec_l15Step.j4])
          | succ kj24 =>
           have H := HA.out
           clear HA
           simp only [spec_l15Step.j4] at H
           by_cases c27 : x57_24 = true
           case pos =>
            subst c27
            have H1 : (spec_l15Step.l2 kj24 a0 a1 a2 l3 a4 a5 a6 x15_3 x17_2 (wrap64 (x18_3 + 1))) = some r := by rw [if_pos rfl] at H; exact H
            clear H
            have H := H1
            clear H1
            have H' := Aside0.mk H
            clear H
            go_wp2
            (try simp only [← hl15_3])
            go_roundg kj24
            case measure => have := HK1.out; have := HK2.out; have := HK3.out; have := HJ19.out; have := HJ24.out; omega
            case rel => exact ⟨(x15_3), (wrap64 (x18_3 + 1)), (by first | rfl | (simp; done) | (simp [*]; done)), H', ⟨by have := HK1.out; have := HK2.out; have := HK3.out; have := HJ19.out; have := HJ24.out; omega⟩, ⟨by (try simp only [hl15_2]); (try simp only [hl15_3]); (with_reducible repeat (first | apply Kd.S_alloc | apply Kd.S_drewN | apply Kd.S_drew)); first | exact HO_15.out | (subst_vars; exact HO_15.out)⟩, ⟨by repeat (first | (with_reducible first | exact HB.out | apply zBa | apply zBn | apply zBd) | exact HB.out)⟩⟩
           replace c27 := Bool.eq_false_iff.mpr c27
           subst c27
           have H1 : (if 0 ≤ x17_2 then (if x17_2 < (l3.length : Int) then ((spec_l14Ones.f kj24 (Go.bits .and .i64 (wrap64 ((wrap64 (2 * x17_2)) + x18_3)) a1)).bind fun t117 => ((spec_l14Ones.f kj24 (Go.bits .and .i64 (wrap64 ((wrap64 (2 * x17_2)) + x18_3)) a2)).bind fun t118 => ((some (([] : List Int) : List Int)).bind fun y119 => (if y119.length + ((rd_T54 l3 x17_2).f2).length < 17592186044416 then ((some (y119 ++ ((rd_T54 l3 x17_2).f2) : List Int)).bind fun y123 => (if a6 = true then (if 0 ≤ (IntKind.u64.wrap (a0)) then (if (shl .i64 1 (IntKind.u64.wrap (a0))) = 0 then (none) else (if 0 ≤ (Int.tmod (wrap64 ((wrap64 (2 * x17_2)) + x18_3)) (shl .i64 1 (IntKind.u64.wrap (a0)))) then (if (Int.tmod (wrap64 ((wrap64 (2 * x17_2)) + x18_3)) (shl .i64 1 (IntKind.u64.wrap (a0)))) < (x15_3.length : Int) then ((l15Bet kj24 (wrap64 ((wrap64 (((rd_T54 l3 x17_2).f1) + (wrap64 (a4 * (wrap64 ((wrap64 (2 * (Int.tmod t117 2))) - 1)))))) + (wrap64 (a5 * (wrap64 ((wrap64 (2 * (Int.tmod t118 2))) - 1)))))) y123 (rd_T54 x15_3 (Int.tmod (wrap64 ((wrap64 (2 * x17_2)) + x18_3)) (shl .i64 1 (IntKind.u64.wrap (a0)))))).bind fun t128 => (if t128 = true then (spec_l15Step.l2 kj24 a0 a1 a2 l3 a4 a5 a6 (x15_3.set ((Int.tmod (wrap64 ((wrap64 (2 * x17_2)) + x18_3)) (shl .i64 1 (IntKind.u64.wrap (a0)))) : Int).toNat (⟨false, wrap64 ((wrap64 (((rd_T54 l3 x17_2).f1) + (wrap64 (a4 * (wrap64 ((wrap64 (2 * (Int.tmod t117 2))) - 1)))))) + (wrap64 (a5 * (wrap64 ((wrap64 (2 * (Int.tmod t118 2))) - 1))))), y123⟩ : S54)) x17_2 (wrap64 (x18_3 + 1))) else (spec_l15Step.l2 kj24 a0 a1 a2 l3 a4 a5 a6 x15_3 x17_2 (wrap64 (x18_3 + 1))))) else (none)) else (none))) else (none)) else (if y123.length < 17592186044416 then ((some (y123 ++ [x18_3] : List Int)).bind fun y130 => (if 0 ≤ (IntKind.u64.wrap (a0)) then (if (shl .i64 1 (IntKind.u64.wrap (a0))) = 0 then (none) else (if 0 ≤ (Int.tmod (wrap64 ((wrap64 (2 * x17_2)) + x18_3)) (shl .i64 1 (IntKind.u64.wrap (a0)))) then (if (Int.tmod (wrap64 ((wrap64 (2 * x17_2)) + x18_3)) (shl .i64 1 (IntKind.u64.wrap (a0)))) < (x15_3.length : Int) then ((l15Bet kj24 (wrap64 ((wrap64 (((rd_T54 l3 x17_2).f1) + (wrap64 (a4 * (wrap64 ((wrap64 (2 * (Int.tmod t117 2))) - 1)))))) + (wrap64 (a5 * (wrap64 ((wrap64 (2 * (Int.tmod t118 2))) - 1)))))) y130 (rd_T54 x15_3 (Int.tmod (wrap64 ((wrap64 (2 * x17_2)) + x18_3)) (shl .i64 1 (IntKind.u64.wrap (a0)))))).bind fun t134 => (if t134 = true then (spec_l15Step.l2 kj24 a0 a1 a2 l3 a4 a5 a6 (x15_3.set ((Int.tmod (wrap64 ((wrap64 (2 * x17_2)) + x18_3)) (shl .i64 1 (IntKind.u64.wrap (a0)))) : Int).toNat (⟨false, wrap64 ((wrap64 (((rd_T54 l3 x17_2).f1) + (wrap64 (a4 * (wrap64 ((wrap64 (2 * (Int.tmod t117 2))) - 1)))))) + (wrap64 (a5 * (wrap64 ((wrap64 (2 * (Int.tmod t118 2))) - 1))))), y130⟩ : S54)) x17_2 (wrap64 (x18_3 + 1))) else (spec_l15Step.l2 kj24 a0 a1 a2 l3 a4 a5 a6 x15_3 x17_2 (wrap64 (x18_3 + 1))))) else (none)) else (none))) else (none))) else (none)))) else (none))))) else (none)) else (none)) = some r := by rw [if_neg (show ¬ (false = true) by decide)] at H; exact H
           clear H
           have H := H1
           clear H1
           by_cases c28 : 0 ≤ x17_2
           case neg =>
            rw [if_neg c28] at H
            exact absurd H (by simp)
           rw [if_pos c28] at H
           have c28b0 : decide (0 ≤ x17_2) = true := zE c28
           (try (have c28w_hl15_2 := c28b0; simp only [hl15_2] at c28w_hl15_2))
           (try (have c28w_hl15_3 := c28b0; simp only [hl15_3] at c28w_hl15_3))
           clear c28
           by_cases c29 : x17_2 < (l3.length : Int)
           case neg =>
            rw [if_neg c29] at H
            exact absurd H (by simp)
           rw [if_pos c29] at H
           have c29b0 : decide (x17_2 < (l3.length : Int)) = true := zE c29
           (try (have c29w_hl15_2 := c29b0; simp only [hl15_2] at c29w_hl15_2))
           (try (have c29w_hl15_3 := c29b0; simp only [hl15_3] at c29w_hl15_3))
           clear c29
           replace H := Option.bind_eq_some_iff.mp H
           obtain ⟨t117, A300, H⟩ := H
           replace H : ((spec_l14Ones.f kj24 (Go.bits .and .i64 (wrap64 ((wrap64 (2 * x17_2)) + x18_3)) a2)).bind fun t118 => ((some (([] : List Int) : List Int)).bind fun y119 => (if y119.length + ((rd_T54 l3 x17_2).f2).length < 17592186044416 then ((some (y119 ++ ((rd_T54 l3 x17_2).f2) : List Int)).bind fun y123 => (if a6 = true then (if 0 ≤ (IntKind.u64.wrap (a0)) then (if (shl .i64 1 (IntKind.u64.wrap (a0))) = 0 then (none) else (if 0 ≤ (Int.tmod (wrap64 ((wrap64 (2 * x17_2)) + x18_3)) (shl .i64 1 (IntKind.u64.wrap (a0)))) then (if (Int.tmod (wrap64 ((wrap64 (2 * x17_2)) + x18_3)) (shl .i64 1 (IntKind.u64.wrap (a0)))) < (x15_3.length : Int) then ((l15Bet kj24 (wrap64 ((wrap64 (((rd_T54 l3 x17_2).f1) + (wrap64 (a4 * (wrap64 ((wrap64 (2 * (Int.tmod t117 2))) - 1)))))) + (wrap64 (a5 * (wrap64 ((wrap64 (2 * (Int.tmod t118 2))) - 1)))))) y123 (rd_T54 x15_3 (Int.tmod (wrap64 ((wrap64 (2 * x17_2)) + x18_3)) (shl .i64 1 (IntKind.u64.wrap (a0)))))).bind fun t128 => (if t128 = true then (spec_l15Step.l2 kj24 a0 a1 a2 l3 a4 a5 a6 (x15_3.set ((Int.tmod (wrap64 ((wrap64 (2 * x17_2)) + x18_3)) (shl .i64 1 (IntKind.u64.wrap (a0)))) : Int).toNat (⟨false, wrap64 ((wrap64 (((rd_T54 l3 x17_2).f1) + (wrap64 (a4 * (wrap64 ((wrap64 (2 * (Int.tmod t117 2))) - 1)))))) + (wrap64 (a5 * (wrap64 ((wrap64 (2 * (Int.tmod t118 2))) - 1))))), y123⟩ : S54)) x17_2 (wrap64 (x18_3 + 1))) else (spec_l15Step.l2 kj24 a0 a1 a2 l3 a4 a5 a6 x15_3 x17_2 (wrap64 (x18_3 + 1))))) else (none)) else (none))) else (none)) else (if y123.length < 17592186044416 then ((some (y123 ++ [x18_3] : List Int)).bind fun y130 => (if 0 ≤ (IntKind.u64.wrap (a0)) then (if (shl .i64 1 (IntKind.u64.wrap (a0))) = 0 then (none) else (if 0 ≤ (Int.tmod (wrap64 ((wrap64 (2 * x17_2)) + x18_3)) (shl .i64 1 (IntKind.u64.wrap (a0)))) then (if (Int.tmod (wrap64 ((wrap64 (2 * x17_2)) + x18_3)) (shl .i64 1 (IntKind.u64.wrap (a0)))) < (x15_3.length : Int) then ((l15Bet kj24 (wrap64 ((wrap64 (((rd_T54 l3 x17_2).f1) + (wrap64 (a4 * (wrap64 ((wrap64 (2 * (Int.tmod t117 2))) - 1)))))) + (wrap64 (a5 * (wrap64 ((wrap64 (2 * (Int.tmod t118 2))) - 1)))))) y130 (rd_T54 x15_3 (Int.tmod (wrap64 ((wrap64 (2 * x17_2)) + x18_3)) (shl .i64 1 (IntKind.u64.wrap (a0)))))).bind fun t134 => (if t134 = true then (spec_l15Step.l2 kj24 a0 a1 a2 l3 a4 a5 a6 (x15_3.set ((Int.tmod (wrap64 ((wrap64 (2 * x17_2)) + x18_3)) (shl .i64 1 (IntKind.u64.wrap (a0)))) : Int).toNat (⟨false, wrap64 ((wrap64 (((rd_T54 l3 x17_2).f1) + (wrap64 (a4 * (wrap64 ((wrap64 (2 * (Int.tmod t117 2))) - 1)))))) + (wrap64 (a5 * (wrap64 ((wrap64 (2 * (Int.tmod t118 2))) - 1))))), y130⟩ : S54)) x17_2 (wrap64 (x18_3 + 1))) else (spec_l15Step.l2 kj24 a0 a1 a2 l3 a4 a5 a6 x15_3 x17_2 (wrap64 (x18_3 + 1))))) else (none)) else (none))) else (none))) else (none)))) else (none)))) = some r := H
           have A30 := Aside0.mk A300
           clear A300
           replace H := Option.bind_eq_some_iff.mp H
           obtain ⟨t118, A310, H⟩ := H
           replace H : ((some (([] : List Int) : List Int)).bind fun y119 => (if y119.length + ((rd_T54 l3 x17_2).f2).length < 17592186044416 then ((some (y119 ++ ((rd_T54 l3 x17_2).f2) : List Int)).bind fun y123 => (if a6 = true then (if 0 ≤ (IntKind.u64.wrap (a0)) then (if (shl .i64 1 (IntKind.u64.wrap (a0))) = 0 then (none) else (if 0 ≤ (Int.tmod (wrap64 ((wrap64 (2 * x17_2)) + x18_3)) (shl .i64 1 (IntKind.u64.wrap (a0)))) then (if (Int.tmod (wrap64 ((wrap64 (2 * x17_2)) + x18_3)) (shl .i64 1 (IntKind.u64.wrap (a0)))) < (x15_3.length : Int) then ((l15Bet kj24 (wrap64 ((wrap64 (((rd_T54 l3 x17_2).f1) + (wrap64 (a4 * (wrap64 ((wrap64 (2 * (Int.tmod t117 2))) - 1)))))) + (wrap64 (a5 * (wrap64 ((wrap64 (2 * (Int.tmod t118 2))) - 1)))))) y123 (rd_T54 x15_3 (Int.tmod (wrap64 ((wrap64 (2 * x17_2)) + x18_3)) (shl .i64 1 (IntKind.u64.wrap (a0)))))).bind fun t128 => (if t128 = true then (spec_l15Step.l2 kj24 a0 a1 a2 l3 a4 a5 a6 (x15_3.set ((Int.tmod (wrap64 ((wrap64 (2 * x17_2)) + x18_3)) (shl .i64 1 (IntKind.u64.wrap (a0)))) : Int).toNat (⟨false, wrap64 ((wrap64 (((rd_T54 l3 x17_2).f1) + (wrap64 (a4 * (wrap64 ((wrap64 (2 * (Int.tmod t117 2))) - 1)))))) + (wrap64 (a5 * (wrap64 ((wrap64 (2 * (Int.tmod t118 2))) - 1))))), y123⟩ : S54)) x17_2 (wrap64 (x18_3 + 1))) else (spec_l15Step.l2 kj24 a0 a1 a2 l3 a4 a5 a6 x15_3 x17_2 (wrap64 (x18_3 + 1))))) else (none)) else (none))) else (none)) else (if y123.length < 17592186044416 then ((some (y123 ++ [x18_3] : List Int)).bind fun y130 => (if 0 ≤ (IntKind.u64.wrap (a0)) then (if (shl .i64 1 (IntKind.u64.wrap (a0))) = 0 then (none) else (if 0 ≤ (Int.tmod (wrap64 ((wrap64 (2 * x17_2)) + x18_3)) (shl .i64 1 (IntKind.u64.wrap (a0)))) then (if (Int.tmod (wrap64 ((wrap64 (2 * x17_2)) + x18_3)) (shl .i64 1 (IntKind.u64.wrap (a0)))) < (x15_3.length : Int) then ((l15Bet kj24 (wrap64 ((wrap64 (((rd_T54 l3 x17_2).f1) + (wrap64 (a4 * (wrap64 ((wrap64 (2 * (Int.tmod t117 2))) - 1)))))) + (wrap64 (a5 * (wrap64 ((wrap64 (2 * (Int.tmod t118 2))) - 1)))))) y130 (rd_T54 x15_3 (Int.tmod (wrap64 ((wrap64 (2 * x17_2)) + x18_3)) (shl .i64 1 (IntKind.u64.wrap (a0)))))).bind fun t134 => (if t134 = true then (spec_l15Step.l2 kj24 a0 a1 a2 l3 a4 a5 a6 (x15_3.set ((Int.tmod (wrap64 ((wrap64 (2 * x17_2)) + x18_3)) (shl .i64 1 (IntKind.u64.wrap (a0)))) : Int).toNat (⟨false, wrap64 ((wrap64 (((rd_T54 l3 x17_2).f1) + (wrap64 (a4 * (wrap64 ((wrap64 (2 * (Int.tmod t117 2))) - 1)))))) + (wrap64 (a5 * (wrap64 ((wrap64 (2 * (Int.tmod t118 2))) - 1))))), y130⟩ : S54)) x17_2 (wrap64 (x18_3 + 1))) else (spec_l15Step.l2 kj24 a0 a1 a2 l3 a4 a5 a6 x15_3 x17_2 (wrap64 (x18_3 + 1))))) else (none)) else (none))) else (none))) else (none)))) else (none))) = some r := H
           have A31 := Aside0.mk A310
           clear A310
           obtain ⟨y119, hy119⟩ : ∃ y_ : List Int, y_ = (([] : List Int)) := ⟨_, rfl⟩
           replace H : (if y119.length + ((rd_T54 l3 x17_2).f2).length < 17592186044416 then ((some (y119 ++ ((rd_T54 l3 x17_2).f2) : List Int)).bind fun y123 => (if a6 = true then (if 0 ≤ (IntKind.u64.wrap (a0)) then (if (shl .i64 1 (IntKind.u64.wrap (a0))) = 0 then (none) else (if 0 ≤ (Int.tmod (wrap64 ((wrap64 (2 * x17_2)) + x18_3)) (shl .i64 1 (IntKind.u64.wrap (a0)))) then (if (Int.tmod (wrap64 ((wrap64 (2 * x17_2)) + x18_3)) (shl .i64 1 (IntKind.u64.wrap (a0)))) < (x15_3.length : Int) then ((l15Bet kj24 (wrap64 ((wrap64 (((rd_T54 l3 x17_2).f1) + (wrap64 (a4 * (wrap64 ((wrap64 (2 * (Int.tmod t117 2))) - 1)))))) + (wrap64 (a5 * (wrap64 ((wrap64 (2 * (Int.tmod t118 2))) - 1)))))) y123 (rd_T54 x15_3 (Int.tmod (wrap64 ((wrap64 (2 * x17_2)) + x18_3)) (shl .i64 1 (IntKind.u64.wrap (a0)))))).bind fun t128 => (if t128 = true then (spec_l15Step.l2 kj24 a0 a1 a2 l3 a4 a5 a6 (x15_3.set ((Int.tmod (wrap64 ((wrap64 (2 * x17_2)) + x18_3)) (shl .i64 1 (IntKind.u64.wrap (a0)))) : Int).toNat (⟨false, wrap64 ((wrap64 (((rd_T54 l3 x17_2).f1) + (wrap64 (a4 * (wrap64 ((wrap64 (2 * (Int.tmod t117 2))) - 1)))))) + (wrap64 (a5 * (wrap64 ((wrap64 (2 * (Int.tmod t118 2))) - 1))))), y123⟩ : S54)) x17_2 (wrap64 (x18_3 + 1))) else (spec_l15Step.l2 kj24 a0 a1 a2 l3 a4 a5 a6 x15_3 x17_2 (wrap64 (x18_3 + 1))))) else (none)) else (none))) else (none)) else (if y123.length < 17592186044416 then ((some (y123 ++ [x18_3] : List Int)).bind fun y130 => (if 0 ≤ (IntKind.u64.wrap (a0)) then (if (shl .i64 1 (IntKind.u64.wrap (a0))) = 0 then (none) else (if 0 ≤ (Int.tmod (wrap64 ((wrap64 (2 * x17_2)) + x18_3)) (shl .i64 1 (IntKind.u64.wrap (a0)))) then (if (Int.tmod (wrap64 ((wrap64 (2 * x17_2)) + x18_3)) (shl .i64 1 (IntKind.u64.wrap (a0)))) < (x15_3.length : Int) then ((l15Bet kj24 (wrap64 ((wrap64 (((rd_T54 l3 x17_2).f1) + (wrap64 (a4 * (wrap64 ((wrap64 (2 * (Int.tmod t117 2))) - 1)))))) + (wrap64 (a5 * (wrap64 ((wrap64 (2 * (Int.tmod t118 2))) - 1)))))) y130 (rd_T54 x15_3 (Int.tmod (wrap64 ((wrap64 (2 * x17_2)) + x18_3)) (shl .i64 1 (IntKind.u64.wrap (a0)))))).bind fun t134 => (if t134 = true then (spec_l15Step.l2 kj24 a0 a1 a2 l3 a4 a5 a6 (x15_3.set ((Int.tmod (wrap64 ((wrap64 (2 * x17_2)) + x18_3)) (shl .i64 1 (IntKind.u64.wrap (a0)))) : Int).toNat (⟨false, wrap64 ((wrap64 (((rd_T54 l3 x17_2).f1) + (wrap64 (a4 * (wrap64 ((wrap64 (2 * (Int.tmod t117 2))) - 1)))))) + (wrap64 (a5 * (wrap64 ((wrap64 (2 * (Int.tmod t118 2))) - 1))))), y130⟩ : S54)) x17_2 (wrap64 (x18_3 + 1))) else (spec_l15Step.l2 kj24 a0 a1 a2 l3 a4 a5 a6 x15_3 x17_2 (wrap64 (x18_3 + 1))))) else (none)) else (none))) else (none))) else (none)))) else (none)) = some r := by first | (rw [hy119]; with_reducible exact H) | (have H2_ := (Option.bind_some _ _).symm.trans H; rw [hy119]; with_reducible exact H2_) | (have H2_ := (Option.bind_some _ _).symm.trans H; with_reducible exact H2_) | with_reducible exact H | (rw [hy119]; exact H) | exact H
           have Ny119 := Aside0.mk hy119
           clear hy119
           by_cases c32 : y119.length + ((rd_T54 l3 x17_2).f2).length < 17592186044416
           case neg =>
            rw [if_neg c32] at H
            exact absurd H (by simp)
           rw [if_pos c32] at H
           have LMc32 := Aside0.mk c32
           clear c32
           obtain ⟨y123, hy123⟩ : ∃ y_ : List Int, y_ = (y119 ++ ((rd_T54 l3 x17_2).f2)) := ⟨_, rfl⟩
           replace H : (if a6 = true then (if 0 ≤ (IntKind.u64.wrap (a0)) then (if (shl .i64 1 (IntKind.u64.wrap (a0))) = 0 then (none) else (if 0 ≤ (Int.tmod (wrap64 ((wrap64 (2 * x17_2)) + x18_3)) (shl .i64 1 (IntKind.u64.wrap (a0)))) then (if (Int.tmod (wrap64 ((wrap64 (2 * x17_2)) + x18_3)) (shl .i64 1 (IntKind.u64.wrap (a0)))) < (x15_3.length : Int) then ((l15Bet kj24 (wrap64 ((wrap64 (((rd_T54 l3 x17_2).f1) + (wrap64 (a4 * (wrap64 ((wrap64 (2 * (Int.tmod t117 2))) - 1)))))) + (wrap64 (a5 * (wrap64 ((wrap64 (2 * (Int.tmod t118 2))) - 1)))))) y123 (rd_T54 x15_3 (Int.tmod (wrap64 ((wrap64 (2 * x17_2)) + x18_3)) (shl .i64 1 (IntKind.u64.wrap (a0)))))).bind fun t128 => (if t128 = true then (spec_l15Step.l2 kj24 a0 a1 a2 l3 a4 a5 a6 (x15_3.set ((Int.tmod (wrap64 ((wrap64 (2 * x17_2)) + x18_3)) (shl .i64 1 (IntKind.u64.wrap (a0)))) : Int).toNat (⟨false, wrap64 ((wrap64 (((rd_T54 l3 x17_2).f1) + (wrap64 (a4 * (wrap64 ((wrap64 (2 * (Int.tmod t117 2))) - 1)))))) + (wrap64 (a5 * (wrap64 ((wrap64 (2 * (Int.tmod t118 2))) - 1))))), y123⟩ : S54)) x17_2 (wrap64 (x18_3 + 1))) else (spec_l15Step.l2 kj24 a0 a1 a2 l3 a4 a5 a6 x15_3 x17_2 (wrap64 (x18_3 + 1))))) else (none)) else (none))) else (none)) else (if y123.length < 17592186044416 then ((some (y123 ++ [x18_3] : List Int)).bind fun y130 => (if 0 ≤ (IntKind.u64.wrap (a0)) then (if (shl .i64 1 (IntKind.u64.wrap (a0))) = 0 then (none) else (if 0 ≤ (Int.tmod (wrap64 ((wrap64 (2 * x17_2)) + x18_3)) (shl .i64 1 (IntKind.u64.wrap (a0)))) then (if (Int.tmod (wrap64 ((wrap64 (2 * x17_2)) + x18_3)) (shl .i64 1 (IntKind.u64.wrap (a0)))) < (x15_3.length : Int) then ((l15Bet kj24 (wrap64 ((wrap64 (((rd_T54 l3 x17_2).f1) + (wrap64 (a4 * (wrap64 ((wrap64 (2 * (Int.tmod t117 2))) - 1)))))) + (wrap64 (a5 * (wrap64 ((wrap64 (2 * (Int.tmod t118 2))) - 1)))))) y130 (rd_T54 x15_3 (Int.tmod (wrap64 ((wrap64 (2 * x17_2)) + x18_3)) (shl .i64 1 (IntKind.u64.wrap (a0)))))).bind fun t134 => (if t134 = true then (spec_l15Step.l2 kj24 a0 a1 a2 l3 a4 a5 a6 (x15_3.set ((Int.tmod (wrap64 ((wrap64 (2 * x17_2)) + x18_3)) (shl .i64 1 (IntKind.u64.wrap (a0)))) : Int).toNat (⟨false, wrap64 ((wrap64 (((rd_T54 l3 x17_2).f1) + (wrap64 (a4 * (wrap64 ((wrap64 (2 * (Int.tmod t117 2))) - 1)))))) + (wrap64 (a5 * (wrap64 ((wrap64 (2 * (Int.tmod t118 2))) - 1))))), y130⟩ : S54)) x17_2 (wrap64 (x18_3 + 1))) else (spec_l15Step.l2 kj24 a0 a1 a2 l3 a4 a5 a6 x15_3 x17_2 (wrap64 (x18_3 + 1))))) else (none)) else (none))) else (none))) else (none))) = some r := by first | (rw [hy123]; with_reducible exact H) | (have H2_ := (Option.bind_some _ _).symm.trans H; rw [hy123]; with_reducible exact H2_) | (have H2_ := (Option.bind_some _ _).symm.trans H; with_reducible exact H2_) | with_reducible exact H | (rw [hy123]; exact H) | exact H
           have Ny123 := Aside0.mk hy123
           clear hy123
           try go_wp2
           refine spec_l15Step.r14 ?hq (by kernel_rfl) kj24 w _ _ _ l3 a1 a2 a4 a5 x17_2 x18_3 _ _ x15_3 t117 t118 y119 y123 HR3 HO_15 HB A30 A31 Ny119 LMc32 Ny123 c28b0 c29b0 ?hk
           case hq => exact fun _ _ _ _ hd h => ⟨hd.trans h.1, h.2⟩
           case hk =>
            clear HO_15 HB
            intro w55 gb126 Ao51 co51 v62 v63 v64 v65 v66 v67 v68 v69 v70 v71 v72 v73 v74 v75 v76 v77 v78 v79 v80 v81 v82 v83 v84 v85 v86 v87 v88 v89 v90 v91 v92 v93 v94 HO_15 HO125 BK126 HB GW126 GE126
            by_cases c33 : a6 = true
            case pos =>
             subst c33
             have H1 : (if 0 ≤ (IntKind.u64.wrap (a0)) then (if (shl .i64 1 (IntKind.u64.wrap (a0))) = 0 then (none) else (if 0 ≤ (Int.tmod (wrap64 ((wrap64 (2 * x17_2)) + x18_3)) (shl .i64 1 (IntKind.u64.wrap (a0)))) then (if (Int.tmod (wrap64 ((wrap64 (2 * x17_2)) + x18_3)) (shl .i64 1 (IntKind.u64.wrap (a0)))) < (x15_3.length : Int) then ((l15Bet kj24 (wrap64 ((wrap64 (((rd_T54 l3 x17_2).f1) + (wrap64 (a4 * (wrap64 ((wrap64 (2 * (Int.tmod t117 2))) - 1)))))) + (wrap64 (a5 * (wrap64 ((wrap64 (2 * (Int.tmod t118 2))) - 1)))))) y123 (rd_T54 x15_3 (Int.tmod (wrap64 ((wrap64 (2 * x17_2)) + x18_3)) (shl .i64 1 (IntKind.u64.wrap (a0)))))).bind fun t128 => (if t128 = true then (spec_l15Step.l2 kj24 a0 a1 a2 l3 a4 a5 true (x15_3.set ((Int.tmod (wrap64 ((wrap64 (2 * x17_2)) + x18_3)) (shl .i64 1 (IntKind.u64.wrap (a0)))) : Int).toNat (⟨false, wrap64 ((wrap64 (((rd_T54 l3 x17_2).f1) + (wrap64 (a4 * (wrap64 ((wrap64 (2 * (Int.tmod t117 2))) - 1)))))) + (wrap64 (a5 * (wrap64 ((wrap64 (2 * (Int.tmod t118 2))) - 1))))), y123⟩ : S54)) x17_2 (wrap64 (x18_3 + 1))) else (spec_l15Step.l2 kj24 a0 a1 a2 l3 a4 a5 true x15_3 x17_2 (wrap64 (x18_3 + 1))))) else (none)) else (none))) else (none)) = some r := by rw [if_pos rfl] at H; exact H
             clear H
             have H := H1
             clear H1
             obtain ⟨ji34, hji34⟩ : ∃ j_ : Int, (IntKind.u64.wrap (a0)) = j_ := ⟨_, rfl⟩
             replace H : (if 0 ≤ (ji34) then (if (shl .i64 1 (ji34)) = 0 then (none) else (if 0 ≤ (Int.tmod (wrap64 ((wrap64 (2 * x17_2)) + x18_3)) (shl .i64 1 (ji34))) then (if (Int.tmod (wrap64 ((wrap64 (2 * x17_2)) + x18_3)) (shl .i64 1 (ji34))) < (x15_3.length : Int) then ((l15Bet kj24 (wrap64 ((wrap64 (((rd_T54 l3 x17_2).f1) + (wrap64 (a4 * (wrap64 ((wrap64 (2 * (Int.tmod t117 2))) - 1)))))) + (wrap64 (a5 * (wrap64 ((wrap64 (2 * (Int.tmod t118 2))) - 1)))))) y123 (rd_T54 x15_3 (Int.tmod (wrap64 ((wrap64 (2 * x17_2)) + x18_3)) (shl .i64 1 (ji34))))).bind fun t128 => (if t128 = true then (spec_l15Step.l2 kj24 a0 a1 a2 l3 a4 a5 true (x15_3.set ((Int.tmod (wrap64 ((wrap64 (2 * x17_2)) + x18_3)) (shl .i64 1 (ji34))) : Int).toNat (⟨false, wrap64 ((wrap64 (((rd_T54 l3 x17_2).f1) + (wrap64 (a4 * (wrap64 ((wrap64 (2 * (Int.tmod t117 2))) - 1)))))) + (wrap64 (a5 * (wrap64 ((wrap64 (2 * (Int.tmod t118 2))) - 1))))), y123⟩ : S54)) x17_2 (wrap64 (x18_3 + 1))) else (spec_l15Step.l2 kj24 a0 a1 a2 l3 a4 a5 true x15_3 x17_2 (wrap64 (x18_3 + 1))))) else (none)) else (none))) else (none)) = some r := by first | (rw [hji34] at H; exact H) | (simp only [hji34] at H ⊢; exact H)
             (try rw [hji34] at A30)
             (try rw [hji34] at A31)
             by_cases c35 : 0 ≤ (ji34)
             case neg =>
              rw [if_neg c35] at H
              exact absurd H (by simp)
             rw [if_pos c35] at H
             have c35b0 := eq_true c35
             have c35b1 : decide (0 ≤ (ji34)) = true := zE c35
             clear c35
             obtain ⟨ji36, hji36⟩ : ∃ j_ : Int, (shl .i64 1 (ji34)) = j_ := ⟨_, rfl⟩
             replace H : (if (ji36) = 0 then (none) else (if 0 ≤ (Int.tmod (wrap64 ((wrap64 (2 * x17_2)) + x18_3)) (ji36)) then (if (Int.tmod (wrap64 ((wrap64 (2 * x17_2)) + x18_3)) (ji36)) < (x15_3.length : Int) then ((l15Bet kj24 (wrap64 ((wrap64 (((rd_T54 l3 x17_2).f1) + (wrap64 (a4 * (wrap64 ((wrap64 (2 * (Int.tmod t117 2))) - 1)))))) + (wrap64 (a5 * (wrap64 ((wrap64 (2 * (Int.tmod t118 2))) - 1)))))) y123 (rd_T54 x15_3 (Int.tmod (wrap64 ((wrap64 (2 * x17_2)) + x18_3)) (ji36)))).bind fun t128 => (if t128 = true then (spec_l15Step.l2 kj24 a0 a1 a2 l3 a4 a5 true (x15_3.set ((Int.tmod (wrap64 ((wrap64 (2 * x17_2)) + x18_3)) (ji36)) : Int).toNat (⟨false, wrap64 ((wrap64 (((rd_T54 l3 x17_2).f1) + (wrap64 (a4 * (wrap64 ((wrap64 (2 * (Int.tmod t117 2))) - 1)))))) + (wrap64 (a5 * (wrap64 ((wrap64 (2 * (Int.tmod t118 2))) - 1))))), y123⟩ : S54)) x17_2 (wrap64 (x18_3 + 1))) else (spec_l15Step.l2 kj24 a0 a1 a2 l3 a4 a5 true x15_3 x17_2 (wrap64 (x18_3 + 1))))) else (none)) else (none))) = some r := by first | (rw [hji36] at H; exact H) | (simp only [hji36] at H ⊢; exact H)
             (try rw [hji36] at A30)
             (try rw [hji36] at A31)
             have hji36_ : (IntKind.i64.wrap (1 * 2 ^ min (ji34).toNat 64)) = ji36 := hji36
             have hji36z : (ji34) ≤ 64 → (IntKind.i64.wrap (1 * 2 ^ (ji34).toNat)) = ji36 := shl_small hji36
             have hji36u : (IntKind.i64.wrap (2 ^ min (ji34).toNat 64)) = ji36 := by have h_ := hji36_; rw [Int.one_mul] at h_; exact h_
             have hji36v : (ji34) ≤ 64 → (IntKind.i64.wrap (2 ^ (ji34).toNat)) = ji36 := fun hle_ => by have h_ := hji36z hle_; rw [Int.one_mul] at h_; exact h_
             have hji36y : (wrap64 (1 * 2 ^ min (ji34).toNat 64)) = ji36 := (i64_w _).symm.trans hji36_
             have hji36x : (ji34) ≤ 64 → (wrap64 (1 * 2 ^ (ji34).toNat)) = ji36 := fun h_ => (i64_w _).symm.trans (hji36z h_)
             by_cases c37 : (ji36) = 0
             case pos =>
              rw [if_pos c37] at H
              exact absurd H (by simp)
             rw [if_neg c37] at H
             have c37b0 : ((ji36) == 0) = false := beq_eq_false_iff_ne.mpr c37
             have c37b1 : ((ji36) != 0) = true := bne_iff_ne.mpr c37
             (try (have c37w_hl15_2 := c37b0; simp only [hl15_2] at c37w_hl15_2))
             (try (have c37w_hl15_3 := c37b0; simp only [hl15_3] at c37w_hl15_3))
             obtain ⟨ji38, hji38⟩ : ∃ j_ : Int, (Int.tmod (wrap64 ((wrap64 (2 * x17_2)) + x18_3)) (ji36)) = j_ := ⟨_, rfl⟩
             replace H : (if 0 ≤ (ji38) then (if (ji38) < (x15_3.length : Int) then ((l15Bet kj24 (wrap64 ((wrap64 (((rd_T54 l3 x17_2).f1) + (wrap64 (a4 * (wrap64 ((wrap64 (2 * (Int.tmod t117 2))) - 1)))))) + (wrap64 (a5 * (wrap64 ((wrap64 (2 * (Int.tmod t118 2))) - 1)))))) y123 (rd_T54 x15_3 (ji38))).bind fun t128 => (if t128 = true then (spec_l15Step.l2 kj24 a0 a1 a2 l3 a4 a5 true (x15_3.set ((ji38) : Int).toNat (⟨false, wrap64 ((wrap64 (((rd_T54 l3 x17_2).f1) + (wrap64 (a4 * (wrap64 ((wrap64 (2 * (Int.tmod t117 2))) - 1)))))) + (wrap64 (a5 * (wrap64 ((wrap64 (2 * (Int.tmod t118 2))) - 1))))), y123⟩ : S54)) x17_2 (wrap64 (x18_3 + 1))) else (spec_l15Step.l2 kj24 a0 a1 a2 l3 a4 a5 true x15_3 x17_2 (wrap64 (x18_3 + 1))))) else (none)) else (none)) = some r := by first | (rw [hji38] at H; exact H) | (simp only [hji38] at H ⊢; exact H)
             (try rw [hji38] at A30)
             (try rw [hji38] at A31)
             by_cases c39 : 0 ≤ (ji38)
             case neg =>
              rw [if_neg c39] at H
              exact absurd H (by simp)
             rw [if_pos c39] at H
             have c39b0 : decide (0 ≤ (ji38)) = true := zE c39
             (try (have c39w_hl15_2 := c39b0; simp only [hl15_2] at c39w_hl15_2))
             (try (have c39w_hl15_3 := c39b0; simp only [hl15_3] at c39w_hl15_3))
             clear c39
             by_cases c40 : (ji38) < (x15_3.length : Int)
             case neg =>
              rw [if_neg c40] at H
              exact absurd H (by simp)
             rw [if_pos c40] at H
             have c40b0 : decide ((ji38) < (x15_3.length : Int)) = true := zE c40
             (try (have c40w_hl15_2 := c40b0; simp only [hl15_2] at c40w_hl15_2))
             (try (have c40w_hl15_3 := c40b0; simp only [hl15_3] at c40w_hl15_3))
             clear c40
             replace H := Option.bind_eq_some_iff.mp H
             obtain ⟨t128, A410, H⟩ := H
             replace H : (if t128 = true then (spec_l15Step.l2 kj24 a0 a1 a2 l3 a4 a5 true (x15_3.set ((ji38) : Int).toNat (⟨false, wrap64 ((wrap64 (((rd_T54 l3 x17_2).f1) + (wrap64 (a4 * (wrap64 ((wrap64 (2 * (Int.tmod t117 2))) - 1)))))) + (wrap64 (a5 * (wrap64 ((wrap64 (2 * (Int.tmod t118 2))) - 1))))), y123⟩ : S54)) x17_2 (wrap64 (x18_3 + 1))) else (spec_l15Step.l2 kj24 a0 a1 a2 l3 a4 a5 true x15_3 x17_2 (wrap64 (x18_3 + 1)))) = some r := H
             have A41 := Aside0.mk A410
             clear A410
             by_cases c42 : t128 = true
             case neg =>
              replace c42 := Bool.eq_false_iff.mpr c42
              subst c42
              have H1 : (spec_l15Step.l2 kj24 a0 a1 a2 l3 a4 a5 true x15_3 x17_2 (wrap64 (x18_3 + 1))) = some r := by rw [if_neg (show ¬ (false = true) by decide)] at H; exact H
              clear H
              have H := H1
              clear H1
              have H' := Aside0.mk H
              clear H
              try go_wp2
              refine spec_l15Step.r18 ?hq (by kernel_rfl) kj24 w w55 _ _ x15_3 gb126 Ao51 co51 y123 _ (ji38) false HO_15 HO125 BK126 HB GW126 GE126 (by first | (with_reducible assumption) | assumption) (by first | (with_reducible assumption) | assumption) A41.out ?hk
              case hq => exact fun _ _ _ _ hd h => ⟨hd.trans h.1, h.2⟩
              case hk =>
               clear HO_15 HO125 BK126 HB
               intro w56 v108 v109 v110 v111 v112 v113 v114 v115 v116 v117 v118 v119 v120 v121 v122 v123 v124 v125 v126 v127 v128 v129 v130 v131 v132 v133 v134 v135 v136 v137 v138 v139 v140 v141 HO_15 HO125 BK126 HB
               try go_wp2
               (try simp only [← hl15_3])
               go_roundg kj24
               case measure => have := HK1.out; have := HK2.out; have := HK3.out; have := HJ19.out; have := HJ24.out; omega
               case rel => exact ⟨(x15_3), (wrap64 (x18_3 + 1)), (by first | rfl | (simp; done) | (simp [*]; done)), H', ⟨by have := HK1.out; have := HK2.out; have := HK3.out; have := HJ19.out; have := HJ24.out; omega⟩, ⟨by (try simp only [hl15_2]); (try simp only [hl15_3]); (with_reducible repeat (first | apply Kd.S_alloc | apply Kd.S_drewN | apply Kd.S_drew)); first | exact Kd.S_mono HO_15.out (fun _ hk => trivial) | (subst_vars; exact Kd.S_mono HO_15.out (fun _ hk => trivial))⟩, ⟨by repeat (first | (with_reducible first | exact HB.out | apply zBa | apply zBn | apply zBd | refine zBs ?_ GE126.out) | exact HB.out)⟩⟩
             subst c42
             have H1 : (spec_l15Step.l2 kj24 a0 a1 a2 l3 a4 a5 true (x15_3.set ((ji38) : Int).toNat (⟨false, wrap64 ((wrap64 (((rd_T54 l3 x17_2).f1) + (wrap64 (a4 * (wrap64 ((wrap64 (2 * (Int.tmod t117 2))) - 1)))))) + (wrap64 (a5 * (wrap64 ((wrap64 (2 * (Int.tmod t118 2))) - 1))))), y123⟩ : S54)) x17_2 (wrap64 (x18_3 + 1))) = some r := by rw [if_pos rfl] at H; exact H
             clear H
             have H := H1
             clear H1
             obtain ⟨y129, hy129⟩ : ∃ y_ : List (S54), y_ = (x15_3.set ((ji38) : Int).toNat (⟨false, wrap64 ((wrap64 (((rd_T54 l3 x17_2).f1) + (wrap64 (a4 * (wrap64 ((wrap64 (2 * (Int.tmod t117 2))) - 1)))))) + (wrap64 (a5 * (wrap64 ((wrap64 (2 * (Int.tmod t118 2))) - 1))))), y123⟩ : S54)) := ⟨_, rfl⟩
             replace H : (spec_l15Step.l2 kj24 a0 a1 a2 l3 a4 a5 true y129 x17_2 (wrap64 (x18_3 + 1))) = some r := by first | (rw [hy129]; with_reducible exact H) | (have H2_ := (Option.bind_some _ _).symm.trans H; rw [hy129]; with_reducible exact H2_) | (have H2_ := (Option.bind_some _ _).symm.trans H; with_reducible exact H2_) | with_reducible exact H | (rw [hy129]; exact H) | exact H
             have Ny129 := Aside0.mk hy129
             clear hy129
             have H' := Aside0.mk H
             clear H
             try go_wp2
             refine spec_l15Step.r18 ?hq (by kernel_rfl) kj24 w w55 _ _ x15_3 gb126 Ao51 co51 y123 _ (ji38) true HO_15 HO125 BK126 HB GW126 GE126 (by first | (with_reducible assumption) | assumption) (by first | (with_reducible assumption) | assumption) A41.out ?hk
             case hq => exact fun _ _ _ _ hd h => ⟨hd.trans h.1, h.2⟩
             case hk =>
              clear HO_15 HO125 BK126 HB
              intro w56 v108 v109 v110 v111 v112 v113 v114 v115 v116 v117 v118 v119 v120 v121 v122 v123 v124 v125 v126 v127 v128 v129 v130 v131 v132 v133 v134 v135 v136 v137 v138 v139 v140 v141 HO_15 HO125 BK126 HB
              have hcz_0 : w56.cell? ⟨gb126, 0, none⟩ = some (.bool false) := (blk_cell BK126.out 0).trans rfl
              have hcz_1 : w56.cell? ⟨gb126, 1, none⟩ = some (.int .i64 (wrap64 ((wrap64 (((rd_T54 l3 x17_2).f1) + (wrap64 (a4 * (wrap64 ((wrap64 (2 * (Int.tmod t117 2))) - 1)))))) + (wrap64 (a5 * (wrap64 ((wrap64 (2 * (Int.tmod t118 2))) - 1))))))) := (blk_cell BK126.out 1).trans rfl
              have hcz_2 : w56.cell? ⟨gb126, 2, none⟩ = some (.slice Ao51 y123.length co51) := (blk_cell BK126.out 2).trans rfl
              have hfz_0 := blk_frozen BK126.out 0
              have hfz_1 := blk_frozen BK126.out 1
              have hfz_2 := blk_frozen BK126.out 2
              have p43 : 0 ≤ ((ji38) : Int) := zT (by first | (with_reducible assumption) | assumption)
              have q43 : ((ji38) : Int) < ((x15_3.length : Int) : Int) := zT (by first | (with_reducible assumption) | assumption)
              obtain ⟨go43, co43, eo43, gb43, gl43, cl43, HG43⟩ := Kd.S_form HO_15.out (by omega)
              (first | cases eo43 | (injection eo43 with ea_ en_ ec_; (first | subst ea_ | (injection ea_ with ea_; subst ea_)); subst ec_; clear en_))
              have GB43 := Aside0.mk gb43
              have GG43 := Aside0.mk HG43
              clear gb43 gl43 HG43
              obtain ⟨_, ce43, hcl43, hM43, hcc43, hfr43, _, _⟩ := Kd.S_elem HO_15.out z54 ((ji38) : Int) p43 q43
              obtain ⟨ve43_2, rfl, ge43_2⟩ := k54_openM hM43
              have hx43_0 : w56.cell? ⟨go43, ((ji38) : Int).toNat * 3, none⟩ = some (.bool ((rd_T54 x15_3 (ji38)).f0)) := hcc43 0 _ rfl
              have hx43_1 : w56.cell? ⟨go43, ((ji38) : Int).toNat * 3 + 1, none⟩ = some (.int .i64 ((rd_T54 x15_3 (ji38)).f1)) := hcc43 1 _ rfl
              have hx43_2 : w56.cell? ⟨go43, ((ji38) : Int).toNat * 3 + 2, none⟩ = some (ve43_2) := hcc43 2 _ rfl
              have hf43_0 : w56.frozen? ⟨go43, ((ji38) : Int).toNat * 3, none⟩ = false := hfr43 0
              have hf43_1 : w56.frozen? ⟨go43, ((ji38) : Int).toNat * 3 + 1, none⟩ = false := hfr43 1
              have hf43_2 : w56.frozen? ⟨go43, ((ji38) : Int).toNat * 3 + 2, none⟩ = false := hfr43 2
              (try clear hcl43 hcc43 hfr43)
              (try clear hM43)
              replace p43 := eq_true p43
              replace q43 := eq_true q43
              have HX57 := Aside0.mk (show Kd.S k54 54 w56 w.heap.size (fun k_ => ((fun k_ => k_ ≠ gb126)) k_ ∧ ¬ ((fun k_ => some k_ = (.slice Ao51 y123.length co51 : Value).ownBlock)) k_) (.slice (some ⟨go43, 0, none⟩) x15_3.length co18) x15_3 from (by (with_reducible repeat (first | apply Kd.S_alloc | apply Kd.S_drewN | apply Kd.S_drew)); exact Kd.S_mono HO_15.out (fun k_ hk => ⟨hk.2, fun e_ => hk.1 e_⟩)))
              obtain ⟨oki57, ce57, hcl57, hM57, hcc57, hfr57, hoki57, hH57⟩ := Kd.S_elem HX57.out z54 ((ji38) : Int) (zT (by first | (with_reducible assumption) | assumption)) (by have h_ : ((ji38) : Int) < ((x15_3.length : Int) : Int) := zT (by first | (with_reducible assumption) | assumption); first | exact h_ | (have e_ := (Kd.S_reads' HO_15.out).1; omega) | simpa using h_)
              obtain ⟨ve57_2, rfl, ge57_2⟩ := k54_openM hM57
              have HP57 := Kd.S_seg hH57 (zT (by first | (with_reducible assumption) | assumption)) (by have h_ : ((ji38) : Int) < ((x15_3.length : Int) : Int) := zT (by first | (with_reducible assumption) | assumption); first | exact h_ | (have e_ := (Kd.S_reads' HO_15.out).1; omega) | simpa using h_) (seg := [.bool false, .int .i64 (wrap64 ((wrap64 (((rd_T54 l3 x17_2).f1) + (wrap64 (a4 * (wrap64 ((wrap64 (2 * (Int.tmod t117 2))) - 1)))))) + (wrap64 (a5 * (wrap64 ((wrap64 (2 * (Int.tmod t118 2))) - 1)))))), .slice Ao51 y123.length co51]) (j := 0) (show 3 ≤ 3 from by decide) (x' := (⟨false, wrap64 ((wrap64 (((rd_T54 l3 x17_2).f1) + (wrap64 (a4 * (wrap64 ((wrap64 (2 * (Int.tmod t117 2))) - 1)))))) + (wrap64 (a5 * (wrap64 ((wrap64 (2 * (Int.tmod t118 2))) - 1))))), y123⟩ : S54)) (k54_mkM _ _ _ (⟨false, wrap64 ((wrap64 (((rd_T54 l3 x17_2).f1) + (wrap64 (a4 * (wrap64 ((wrap64 (2 * (Int.tmod t117 2))) - 1)))))) + (wrap64 (a5 * (wrap64 ((wrap64 (2 * (Int.tmod t118 2))) - 1))))), y123⟩ : S54) (Kd.R_mono (Kd.R_tight rfl (Kd.R_mono (ok' := fun k_ => ((fun k_ => k_ ≠ gb126)) k_ ∧ k_ ≠ go43) (Kd.R_types (Kd.R_apart' (HO125.out) (Kd.S_typed HO_15.out) (by decide)) BK126.out (by decide)) (fun k_ hk => ⟨hk.2, fun e_ => (hk.1.2) (by rw [e_]; rfl)⟩))) (fun _ h_ => Or.inr (h_)))) (fun _ hk => hk) (fun k_ hk_ => ((Kd.R_mono (ok' := fun k_ => ((fun k_ => k_ ≠ gb126)) k_ ∧ k_ ≠ go43) (Kd.R_types (Kd.R_apart' (HO125.out) (Kd.S_typed HO_15.out) (by decide)) BK126.out (by decide)) (fun k_ hk => ⟨hk.2, fun e_ => (hk.1.2) (by rw [e_]; rfl)⟩))).1 k_ hk_.symm)
              have hx57_0 := hcc57 0 _ rfl
              (try simp only [show (k54).sz = 3 from rfl, Nat.mul_one, Nat.add_zero] at hx57_0)
              have hf57_0 := hfr57 0
              (try simp only [show (k54).sz = 3 from rfl, Nat.mul_one, Nat.add_zero] at hf57_0)
              have hx57_1 := hcc57 1 _ rfl
              (try simp only [show (k54).sz = 3 from rfl, Nat.mul_one, Nat.add_zero] at hx57_1)
              have hf57_1 := hfr57 1
              (try simp only [show (k54).sz = 3 from rfl, Nat.mul_one, Nat.add_zero] at hf57_1)
              have hx57_2 := hcc57 2 _ rfl
              (try simp only [show (k54).sz = 3 from rfl, Nat.mul_one, Nat.add_zero] at hx57_2)
              have hf57_2 := hfr57 2
              (try simp only [show (k54).sz = 3 from rfl, Nat.mul_one, Nat.add_zero] at hf57_2)
              (try clear hcl57 hcc57 hfr57 hoki57 hH57)
              (try clear hM57)
              try go_wp2_with (first | ((with_reducible refine gate_store (t := 54) (p := 146) rfl ?_); refine store_event (t := 54) (p := 146) (v := ?vo_w58) (w1 := (((w56.setCell ⟨go43, ((ji38) : Int).toNat * 3, none⟩ (.bool false)).setCell ⟨go43, ((ji38) : Int).toNat * 3 + 1, none⟩ (.int .i64 (wrap64 ((wrap64 (((rd_T54 l3 x17_2).f1) + (wrap64 (a4 * (wrap64 ((wrap64 (2 * (Int.tmod t117 2))) - 1)))))) + (wrap64 (a5 * (wrap64 ((wrap64 (2 * (Int.tmod t118 2))) - 1)))))))).setCell ⟨go43, ((ji38) : Int).toNat * 3 + 2, none⟩ (.slice Ao51 y123.length co51))) ?hg ?ho ?hn ?hr ?_; (case ho => rfl); (case hg => rfl); (case hn => rfl); (case hr => first | (go_simp; done) | (go_simp; rfl)); intro w58 hw; have hg : w56.grownBy w58 (some go43) := (by rw [hw]; exact HP57.2); have hp_ : Kd.S k54 54 w58 w.heap.size (fun k_ => k_ ≠ gb126) (.slice (some ⟨go43, 0, none⟩) x15_3.length co18) y129 := (by rw [hw, Ny129.out]; exact HP57.1); clear HP57; have n0_ := Aside0.mk (hp_); have n1_ := Aside0.mk (blk_grown (g := gb126) (o := .cells #[.bool false, .int .i64 (wrap64 ((wrap64 (((rd_T54 l3 x17_2).f1) + (wrap64 (a4 * (wrap64 ((wrap64 (2 * (Int.tmod t117 2))) - 1)))))) + (wrap64 (a5 * (wrap64 ((wrap64 (2 * (Int.tmod t118 2))) - 1)))))), .slice Ao51 y123.length co51] 54 (0, 0)) (by (with_reducible repeat (first | apply zNn | apply zNd | apply zNa)); exact BK126.out) hg (Kd.S_away HO_15.out (fun _ hk => hk.2))); have n3_ := Aside0.mk ((by rw [hw]; exact zBs (zBs (zBs (HB.out) GB43.out) GB43.out) GB43.out : Below w.heap.size w w58)); clear HO_15; clear BK126; clear HB; clear HO125; have HO_15 := n0_; have BK126 := n1_; have HB := n3_; clear n0_ n1_ n3_; clear hg hw hp_))
              (try simp only [← hl15_3])
              go_roundg kj24
              case measure => have := HK1.out; have := HK2.out; have := HK3.out; have := HJ19.out; have := HJ24.out; omega
              case rel => exact ⟨(y129), (wrap64 (x18_3 + 1)), (by first | rfl | (simp; done) | (simp [*]; done)), H', ⟨by have := HK1.out; have := HK2.out; have := HK3.out; have := HJ19.out; have := HJ24.out; omega⟩, ⟨by (try simp only [hl15_2]); (try simp only [hl15_3]); (with_reducible repeat (first | apply Kd.S_alloc | apply Kd.S_drewN | apply Kd.S_drew)); first | exact Kd.S_mono HO_15.out (fun _ hk => trivial) | (subst_vars; exact Kd.S_mono HO_15.out (fun _ hk => trivial))⟩, ⟨by repeat (first | (with_reducible first | exact HB.out | apply zBa | apply zBn | apply zBd | refine zBs ?_ GE126.out) | exact HB.out)⟩⟩
            replace c33 := Bool.eq_false_iff.mpr c33
            subst c33
            have H1 : (if y123.length < 17592186044416 then ((some (y123 ++ [x18_3] : List Int)).bind fun y130 => (if 0 ≤ (IntKind.u64.wrap (a0)) then (if (shl .i64 1 (IntKind.u64.wrap (a0))) = 0 then (none) else (if 0 ≤ (Int.tmod (wrap64 ((wrap64 (2 * x17_2)) + x18_3)) (shl .i64 1 (IntKind.u64.wrap (a0)))) then (if (Int.tmod (wrap64 ((wrap64 (2 * x17_2)) + x18_3)) (shl .i64 1 (IntKind.u64.wrap (a0)))) < (x15_3.length : Int) then ((l15Bet kj24 (wrap64 ((wrap64 (((rd_T54 l3 x17_2).f1) + (wrap64 (a4 * (wrap64 ((wrap64 (2 * (Int.tmod t117 2))) - 1)))))) + (wrap64 (a5 * (wrap64 ((wrap64 (2 * (Int.tmod t118 2))) - 1)))))) y130 (rd_T54 x15_3 (Int.tmod (wrap64 ((wrap64 (2 * x17_2)) + x18_3)) (shl .i64 1 (IntKind.u64.wrap (a0)))))).bind fun t134 => (if t134 = true then (spec_l15Step.l2 kj24 a0 a1 a2 l3 a4 a5 false (x15_3.set ((Int.tmod (wrap64 ((wrap64 (2 * x17_2)) + x18_3)) (shl .i64 1 (IntKind.u64.wrap (a0)))) : Int).toNat (⟨false, wrap64 ((wrap64 (((rd_T54 l3 x17_2).f1) + (wrap64 (a4 * (wrap64 ((wrap64 (2 * (Int.tmod t117 2))) - 1)))))) + (wrap64 (a5 * (wrap64 ((wrap64 (2 * (Int.tmod t118 2))) - 1))))), y130⟩ : S54)) x17_2 (wrap64 (x18_3 + 1))) else (spec_l15Step.l2 kj24 a0 a1 a2 l3 a4 a5 false x15_3 x17_2 (wrap64 (x18_3 + 1))))) else (none)) else (none))) else (none))) else (none)) = some r := by rw [if_neg (show ¬ (false = true) by decide)] at H; exact H
            clear H
            have H := H1
            clear H1
            by_cases c72 : y123.length < 17592186044416
            case neg =>
             rw [if_neg c72] at H
             exact absurd H (by simp)
            rw [if_pos c72] at H
            have LMc72 := Aside0.mk c72
            clear c72
            obtain ⟨y130, hy130⟩ : ∃ y_ : List Int, y_ = (y123 ++ [x18_3]) := ⟨_, rfl⟩
            replace H : (if 0 ≤ (IntKind.u64.wrap (a0)) then (if (shl .i64 1 (IntKind.u64.wrap (a0))) = 0 then (none) else (if 0 ≤ (Int.tmod (wrap64 ((wrap64 (2 * x17_2)) + x18_3)) (shl .i64 1 (IntKind.u64.wrap (a0)))) then (if (Int.tmod (wrap64 ((wrap64 (2 * x17_2)) + x18_3)) (shl .i64 1 (IntKind.u64.wrap (a0)))) < (x15_3.length : Int) then ((l15Bet kj24 (wrap64 ((wrap64 (((rd_T54 l3 x17_2).f1) + (wrap64 (a4 * (wrap64 ((wrap64 (2 * (Int.tmod t117 2))) - 1)))))) + (wrap64 (a5 * (wrap64 ((wrap64 (2 * (Int.tmod t118 2))) - 1)))))) y130 (rd_T54 x15_3 (Int.tmod (wrap64 ((wrap64 (2 * x17_2)) + x18_3)) (shl .i64 1 (IntKind.u64.wrap (a0)))))).bind fun t134 => (if t134 = true then (spec_l15Step.l2 kj24 a0 a1 a2 l3 a4 a5 false (x15_3.set ((Int.tmod (wrap64 ((wrap64 (2 * x17_2)) + x18_3)) (shl .i64 1 (IntKind.u64.wrap (a0)))) : Int).toNat (⟨false, wrap64 ((wrap64 (((rd_T54 l3 x17_2).f1) + (wrap64 (a4 * (wrap64 ((wrap64 (2 * (Int.tmod t117 2))) - 1)))))) + (wrap64 (a5 * (wrap64 ((wrap64 (2 * (Int.tmod t118 2))) - 1))))), y130⟩ : S54)) x17_2 (wrap64 (x18_3 + 1))) else (spec_l15Step.l2 kj24 a0 a1 a2 l3 a4 a5 false x15_3 x17_2 (wrap64 (x18_3 + 1))))) else (none)) else (none))) else (none)) = some r := by first | (rw [hy130]; with_reducible exact H) | (have H2_ := (Option.bind_some _ _).symm.trans H; rw [hy130]; with_reducible exact H2_) | (have H2_ := (Option.bind_some _ _).symm.trans H; with_reducible exact H2_) | with_reducible exact H | (rw [hy130]; exact H) | exact H
            have Ny130 := Aside0.mk hy130
            clear hy130
            obtain ⟨ji73, hji73⟩ : ∃ j_ : Int, (IntKind.u64.wrap (a0)) = j_ := ⟨_, rfl⟩
            replace H : (if 0 ≤ (ji73) then (if (shl .i64 1 (ji73)) = 0 then (none) else (if 0 ≤ (Int.tmod (wrap64 ((wrap64 (2 * x17_2)) + x18_3)) (shl .i64 1 (ji73))) then (if (Int.tmod (wrap64 ((wrap64 (2 * x17_2)) + x18_3)) (shl .i64 1 (ji73))) < (x15_3.length : Int) then ((l15Bet kj24 (wrap64 ((wrap64 (((rd_T54 l3 x17_2).f1) + (wrap64 (a4 * (wrap64 ((wrap64 (2 * (Int.tmod t117 2))) - 1)))))) + (wrap64 (a5 * (wrap64 ((wrap64 (2 * (Int.tmod t118 2))) - 1)))))) y130 (rd_T54 x15_3 (Int.tmod (wrap64 ((wrap64 (2 * x17_2)) + x18_3)) (shl .i64 1 (ji73))))).bind fun t134 => (if t134 = true then (spec_l15Step.l2 kj24 a0 a1 a2 l3 a4 a5 false (x15_3.set ((Int.tmod (wrap64 ((wrap64 (2 * x17_2)) + x18_3)) (shl .i64 1 (ji73))) : Int).toNat (⟨false, wrap64 ((wrap64 (((rd_T54 l3 x17_2).f1) + (wrap64 (a4 * (wrap64 ((wrap64 (2 * (Int.tmod t117 2))) - 1)))))) + (wrap64 (a5 * (wrap64 ((wrap64 (2 * (Int.tmod t118 2))) - 1))))), y130⟩ : S54)) x17_2 (wrap64 (x18_3 + 1))) else (spec_l15Step.l2 kj24 a0 a1 a2 l3 a4 a5 false x15_3 x17_2 (wrap64 (x18_3 + 1))))) else (none)) else (none))) else (none)) = some r := by first | (rw [hji73] at H; exact H) | (simp only [hji73] at H ⊢; exact H)
            (try rw [hji73] at A30)
            (try rw [hji73] at A31)
            by_cases c74 : 0 ≤ (ji73)
            case neg =>
             rw [if_neg c74] at H
             exact absurd H (by simp)
            rw [if_pos c74] at H
            have c74b0 := eq_true c74
            have c74b1 : decide (0 ≤ (ji73)) = true := zE c74
            clear c74
            obtain ⟨ji75, hji75⟩ : ∃ j_ : Int, (shl .i64 1 (ji73)) = j_ := ⟨_, rfl⟩
            replace H : (if (ji75) = 0 then (none) else (if 0 ≤ (Int.tmod (wrap64 ((wrap64 (2 * x17_2)) + x18_3)) (ji75)) then (if (Int.tmod (wrap64 ((wrap64 (2 * x17_2)) + x18_3)) (ji75)) < (x15_3.length : Int) then ((l15Bet kj24 (wrap64 ((wrap64 (((rd_T54 l3 x17_2).f1) + (wrap64 (a4 * (wrap64 ((wrap64 (2 * (Int.tmod t117 2))) - 1)))))) + (wrap64 (a5 * (wrap64 ((wrap64 (2 * (Int.tmod t118 2))) - 1)))))) y130 (rd_T54 x15_3 (Int.tmod (wrap64 ((wrap64 (2 * x17_2)) + x18_3)) (ji75)))).bind fun t134 => (if t134 = true then (spec_l15Step.l2 kj24 a0 a1 a2 l3 a4 a5 false (x15_3.set ((Int.tmod (wrap64 ((wrap64 (2 * x17_2)) + x18_3)) (ji75)) : Int).toNat (⟨false, wrap64 ((wrap64 (((rd_T54 l3 x17_2).f1) + (wrap64 (a4 * (wrap64 ((wrap64 (2 * (Int.tmod t117 2))) - 1)))))) + (wrap64 (a5 * (wrap64 ((wrap64 (2 * (Int.tmod t118 2))) - 1))))), y130⟩ : S54)) x17_2 (wrap64 (x18_3 + 1))) else (spec_l15Step.l2 kj24 a0 a1 a2 l3 a4 a5 false x15_3 x17_2 (wrap64 (x18_3 + 1))))) else (none)) else (none))) = some r := by first | (rw [hji75] at H; exact H) | (simp only [hji75] at H ⊢; exact H)
            (try rw [hji75] at A30)
            (try rw [hji75] at A31)
            have hji75_ : (IntKind.i64.wrap (1 * 2 ^ min (ji73).toNat 64)) = ji75 := hji75
            have hji75z : (ji73) ≤ 64 → (IntKind.i64.wrap (1 * 2 ^ (ji73).toNat)) = ji75 := shl_small hji75
            have hji75u : (IntKind.i64.wrap (2 ^ min (ji73).toNat 64)) = ji75 := by have h_ := hji75_; rw [Int.one_mul] at h_; exact h_
            have hji75v : (ji73) ≤ 64 → (IntKind.i64.wrap (2 ^ (ji73).toNat)) = ji75 := fun hle_ => by have h_ := hji75z hle_; rw [Int.one_mul] at h_; exact h_
            have hji75y : (wrap64 (1 * 2 ^ min (ji73).toNat 64)) = ji75 := (i64_w _).symm.trans hji75_
            have hji75x : (ji73) ≤ 64 → (wrap64 (1 * 2 ^ (ji73).toNat)) = ji75 := fun h_ => (i64_w _).symm.trans (hji75z h_)
            by_cases c76 : (ji75) = 0
            case pos =>
             rw [if_pos c76] at H
             exact absurd H (by simp)
            rw [if_neg c76] at H
            have c76b0 : ((ji75) == 0) = false := beq_eq_false_iff_ne.mpr c76
            have c76b1 : ((ji75) != 0) = true := bne_iff_ne.mpr c76
            (try (have c76w_hl15_2 := c76b0; simp only [hl15_2] at c76w_hl15_2))
            (try (have c76w_hl15_3 := c76b0; simp only [hl15_3] at c76w_hl15_3))
            obtain ⟨ji77, hji77⟩ : ∃ j_ : Int, (Int.tmod (wrap64 ((wrap64 (2 * x17_2)) + x18_3)) (ji75)) = j_ := ⟨_, rfl⟩
            replace H : (if 0 ≤ (ji77) then (if (ji77) < (x15_3.length : Int) then ((l15Bet kj24 (wrap64 ((wrap64 (((rd_T54 l3 x17_2).f1) + (wrap64 (a4 * (wrap64 ((wrap64 (2 * (Int.tmod t117 2))) - 1)))))) + (wrap64 (a5 * (wrap64 ((wrap64 (2 * (Int.tmod t118 2))) - 1)))))) y130 (rd_T54 x15_3 (ji77))).bind fun t134 => (if t134 = true then (spec_l15Step.l2 kj24 a0 a1 a2 l3 a4 a5 false (x15_3.set ((ji77) : Int).toNat (⟨false, wrap64 ((wrap64 (((rd_T54 l3 x17_2).f1) + (wrap64 (a4 * (wrap64 ((wrap64 (2 * (Int.tmod t117 2))) - 1)))))) + (wrap64 (a5 * (wrap64 ((wrap64 (2 * (Int.tmod t118 2))) - 1))))), y130⟩ : S54)) x17_2 (wrap64 (x18_3 + 1))) else (spec_l15Step.l2 kj24 a0 a1 a2 l3 a4 a5 false x15_3 x17_2 (wrap64 (x18_3 + 1))))) else (none)) else (none)) = some r := by first | (rw [hji77] at H; exact H) | (simp only [hji77] at H ⊢; exact H)
            (try rw [hji77] at A30)
            (try rw [hji77] at A31)
            by_cases c78 : 0 ≤ (ji77)
            case neg =>
             rw [if_neg c78] at H
             exact absurd H (by simp)
            rw [if_pos c78] at H
            have c78b0 : decide (0 ≤ (ji77)) = true := zE c78
            (try (have c78w_hl15_2 := c78b0; simp only [hl15_2] at c78w_hl15_2))
            (try (have c78w_hl15_3 := c78b0; simp only [hl15_3] at c78w_hl15_3))
            clear c78
            by_cases c79 : (ji77) < (x15_3.length : Int)
            case neg =>
             rw [if_neg c79] at H
             exact absurd H (by simp)
            rw [if_pos c79] at H
            have c79b0 : decide ((ji77) < (x15_3.length : Int)) = true := zE c79
            (try (have c79w_hl15_2 := c79b0; simp only [hl15_2] at c79w_hl15_2))
            (try (have c79w_hl15_3 := c79b0; simp only [hl15_3] at c79w_hl15_3))
            clear c79
            replace H := Option.bind_eq_some_iff.mp H
            obtain ⟨t134, A800, H⟩ := H
            replace H : (if t134 = true then (spec_l15Step.l2 kj24 a0 a1 a2 l3 a4 a5 false (x15_3.set ((ji77) : Int).toNat (⟨false, wrap64 ((wrap64 (((rd_T54 l3 x17_2).f1) + (wrap64 (a4 * (wrap64 ((wrap64 (2 * (Int.tmod t117 2))) - 1)))))) + (wrap64 (a5 * (wrap64 ((wrap64 (2 * (Int.tmod t118 2))) - 1))))), y130⟩ : S54)) x17_2 (wrap64 (x18_3 + 1))) else (spec_l15Step.l2 kj24 a0 a1 a2 l3 a4 a5 false x15_3 x17_2 (wrap64 (x18_3 + 1)))) = some r := H
            have A80 := Aside0.mk A800
            clear A800
            by_cases c81 : t134 = true
            case neg =>
             replace c81 := Bool.eq_false_iff.mpr c81
             subst c81
             have H1 : (spec_l15Step.l2 kj24 a0 a1 a2 l3 a4 a5 false x15_3 x17_2 (wrap64 (x18_3 + 1))) = some r := by rw [if_neg (show ¬ (false = true) by decide)] at H; exact H
             clear H
             have H := H1
             clear H1
             have H' := Aside0.mk H
             clear H
             have hcz_0 : w55.cell? ⟨gb126, 0, none⟩ = some (.bool false) := (blk_cell BK126.out 0).trans rfl
             have hcz_1 : w55.cell? ⟨gb126, 1, none⟩ = some (.int .i64 (wrap64 ((wrap64 (((rd_T54 l3 x17_2).f1) + (wrap64 (a4 * (wrap64 ((wrap64 (2 * (Int.tmod t117 2))) - 1)))))) + (wrap64 (a5 * (wrap64 ((wrap64 (2 * (Int.tmod t118 2))) - 1))))))) := (blk_cell BK126.out 1).trans rfl
             have hcz_2 : w55.cell? ⟨gb126, 2, none⟩ = some (.slice Ao51 y123.length co51) := (blk_cell BK126.out 2).trans rfl
             have hfz_0 := blk_frozen BK126.out 0
             have hfz_1 := blk_frozen BK126.out 1
             have hfz_2 := blk_frozen BK126.out 2
             try go_wp2_with (first | ((with_reducible refine gate_builtin (b := .append) (xs := #[.tmp 98, .tmp 100]) rfl ?_); at_builtin; refine Kd.R_append (Kd.int .i64) (w0 := w) w.heap.size rfl (.tmp 98) (.tmp 100) 24 3 (.int .i64 0) 8 rfl Try.underlying24 info3 rfl (by decide) (by omega) (.slice Ao51 y123.length co51) y123 x18_3 [.int .i64 x18_3] (fun _ => True) (fun _ => False) rfl (by first | (go_simp; done) | (go_simp; rfl)) ?aP (fun _ hk => hk.elim) ?aF ?aO ?aB ?aS ?aL ?_; (case aP => exact rfl); (case aB => exact (by repeat (first | (with_reducible first | exact HB.out | apply zBa | apply zBn | apply zBd | refine zBs ?_ GE126.out) | exact HB.out))); (case aF => exact (fun _ _ => trivial)); (case aO => exact (by (with_reducible repeat (first | apply zRa | apply zRn | apply zRd)); exact HO125.out)); (case aS => exact (below_size (by repeat (first | (with_reducible first | exact HB.out | apply zBa | apply zBn | apply zBd | refine zBs ?_ GE126.out) | exact HB.out)))); (case aL => have := LMc72.out; omega); intro vap wap ho hb hg hat; (first | rw [← Ny130.out] at ho | (simp only [Int.reduceToNat] at ho; rw [← Ny130.out] at ho)); have n0_ := Aside0.mk (Kd.S_after (ok := (fun k_ => k_ ≠ gb126)) (by (with_reducible repeat (first | apply Kd.S_alloc | apply Kd.S_drewN | apply Kd.S_drew)); exact Kd.S_mono HO_15.out (fun _ hk => ⟨hk.2, hk.1⟩)) hg hat); have n1_ := Aside0.mk (blk_grown (g := gb126) (o := .cells #[.bool false, .int .i64 (wrap64 ((wrap64 (((rd_T54 l3 x17_2).f1) + (wrap64 (a4 * (wrap64 ((wrap64 (2 * (Int.tmod t117 2))) - 1)))))) + (wrap64 (a5 * (wrap64 ((wrap64 (2 * (Int.tmod t118 2))) - 1)))))), .slice Ao51 y123.length co51] 54 (0, 0)) (by (with_reducible repeat (first | apply zNn | apply zNd | apply zNa)); exact BK126.out) hg (Kd.R_ne HO125.out BK126.out (by decide))); have n2_ := Aside0.mk (hb); have n3_ := Aside0.mk (ho); clear HO_15; clear BK126; clear HB; clear HO125; have HO_15 := n0_; have BK126 := n1_; have HB := n2_; have HO132 := n3_; clear n0_ n1_ n2_ n3_; clear ho hb hg hat; obtain ⟨Ao96, co96, eo96⟩ := Kd.R_slice HO132.out; subst eo96; have hcy_0 : wap.cell? ⟨gb126, 0, none⟩ = some (.bool false) := (blk_cell BK126.out 0).trans rfl; have hcy_1 : wap.cell? ⟨gb126, 1, none⟩ = some (.int .i64 (wrap64 ((wrap64 (((rd_T54 l3 x17_2).f1) + (wrap64 (a4 * (wrap64 ((wrap64 (2 * (Int.tmod t117 2))) - 1)))))) + (wrap64 (a5 * (wrap64 ((wrap64 (2 * (Int.tmod t118 2))) - 1))))))) := (blk_cell BK126.out 1).trans rfl; have hcy_2 : wap.cell? ⟨gb126, 2, none⟩ = some (.slice Ao51 y123.length co51) := (blk_cell BK126.out 2).trans rfl; have hfy_0 := blk_frozen BK126.out 0; have hfy_1 := blk_frozen BK126.out 1; have hfy_2 := blk_frozen BK126.out 2) | ((with_reducible refine gate_store (t := 24) (p := 102) rfl ?_); refine store_event (t := 24) (p := 102) (v := ?vo_w98) (w1 := (wap.setCell ⟨gb126, 2, none⟩ (.slice Ao96 y130.length co96))) ?hg ?ho ?hn ?hr ?_; (case ho => rfl); (case hg => rfl); (case hn => rfl); (case hr => first | (go_simp; done) | (go_simp; rfl)); intro w98 hw; have n0_ : Aside0 (Kd.S k54 54 w98 w.heap.size (fun k_ => some k_ ≠ (.slice Ao96 y130.length co96 : Value).ownBlock ∧ k_ ≠ gb126) (.slice Ao18 x15_3.length co18) x15_3) := ⟨(by rw [hw]; exact (by (with_reducible repeat (first | apply Kd.S_alloc | apply Kd.S_drewN | apply Kd.S_drew)); exact Kd.S_mono (Kd.S_far (p := ⟨gb126, 2, none⟩) (Kd.S_mono HO_15.out (fun k_ hk => (⟨hk, hk.1⟩ : _ ∧ k_ ≠ gb126))) (fun _ hk => hk.2) (.slice Ao96 y130.length co96)) (fun _ hk => ⟨hk.1.2, hk.1.1⟩)))⟩; have n1_ : Aside0 (Kd.R (Kd.int .i64) 3 w98 w.heap.size (fun _ => True) (.slice Ao96 y130.length co96) y130) := ⟨(by rw [hw]; exact (by (with_reducible repeat (first | apply zRa | apply zRn | apply zRd)); exact Kd.R_mono (Kd.R_far (p := ⟨gb126, 2, none⟩) (Kd.R_types HO132.out BK126.out (by decide)) (fun _ hk => hk.2) (.slice Ao96 y130.length co96)) (fun _ hk => trivial)))⟩; have n2_ : Aside0 (w98.heap[gb126]? = some (.cells #[.bool false, .int .i64 (wrap64 ((wrap64 (((rd_T54 l3 x17_2).f1) + (wrap64 (a4 * (wrap64 ((wrap64 (2 * (Int.tmod t117 2))) - 1)))))) + (wrap64 (a5 * (wrap64 ((wrap64 (2 * (Int.tmod t118 2))) - 1)))))), .slice Ao96 y130.length co96] 54 (0, 0))) := ⟨(by rw [hw]; exact (by (with_reducible repeat (first | apply zNn | apply zNd | apply zNa)); refine blk_put (cs := #[.bool false, .int .i64 (wrap64 ((wrap64 (((rd_T54 l3 x17_2).f1) + (wrap64 (a4 * (wrap64 ((wrap64 (2 * (Int.tmod t117 2))) - 1)))))) + (wrap64 (a5 * (wrap64 ((wrap64 (2 * (Int.tmod t118 2))) - 1)))))), .slice Ao51 y123.length co51]) ?_ 2 _ rfl; (with_reducible repeat (first | apply zNn | apply zNd | apply zNa)); exact BK126.out))⟩; have n3_ : Aside0 (Below w.heap.size w w98) := ⟨(by rw [hw]; exact (by repeat (first | (with_reducible first | exact HB.out | apply zBa | apply zBn | apply zBd | refine zBs ?_ GE126.out) | exact HB.out)))⟩; clear hw; clear HO_15; clear HO132; clear BK126; clear HB; have HO_15 := n0_; have HO132 := n1_; have BK126 := n2_; have HB := n3_; clear n0_ n1_ n2_ n3_))
             refine spec_l15Step.r18 ?hq (by kernel_rfl) kj24 w w98 _ _ x15_3 gb126 Ao96 co96 y130 _ (ji77) false HO_15 HO132 BK126 HB GW126 GE126 (by first | (with_reducible assumption) | assumption) (by first | (with_reducible assumption) | assumption) A80.out ?hk
             case hq => exact fun _ _ _ _ hd h => ⟨hd.trans h.1, h.2⟩
             case hk =>
              clear HO_15 HO132 BK126 HB
              intro w99 v108 v109 v110 v111 v112 v113 v114 v115 v116 v117 v118 v119 v120 v121 v122 v123 v124 v125 v126 v127 v128 v129 v130 v131 v132 v133 v134 v135 v136 v137 v138 v139 v140 v141 HO_15 HO132 BK126 HB
              try go_wp2
              (try simp only [← hl15_3])
              go_roundg kj24
              case measure => have := HK1.out; have := HK2.out; have := HK3.out; have := HJ19.out; have := HJ24.out; omega
              case rel => exact ⟨(x15_3), (wrap64 (x18_3 + 1)), (by first | rfl | (simp; done) | (simp [*]; done)), H', ⟨by have := HK1.out; have := HK2.out; have := HK3.out; have := HJ19.out; have := HJ24.out; omega⟩, ⟨by (try simp only [hl15_2]); (try simp only [hl15_3]); (with_reducible repeat (first | apply Kd.S_alloc | apply Kd.S_drewN | apply Kd.S_drew)); first | exact Kd.S_mono HO_15.out (fun _ hk => trivial) | (subst_vars; exact Kd.S_mono HO_15.out (fun _ hk => trivial))⟩, ⟨by repeat (first | (with_reducible first | exact HB.out | apply zBa | apply zBn | apply zBd | refine zBs ?_ GE126.out) | exact HB.out)⟩⟩
            subst c81
            have H1 : (spec_l15Step.l2 kj24 a0 a1 a2 l3 a4 a5 false (x15_3.set ((ji77) : Int).toNat (⟨false, wrap64 ((wrap64 (((rd_T54 l3 x17_2).f1) + (wrap64 (a4 * (wrap64 ((wrap64 (2 * (Int.tmod t117 2))) - 1)))))) + (wrap64 (a5 * (wrap64 ((wrap64 (2 * (Int.tmod t118 2))) - 1))))), y130⟩ : S54)) x17_2 (wrap64 (x18_3 + 1))) = some r := by rw [if_pos rfl] at H; exact H
            clear H
            have H := H1
            clear H1
            obtain ⟨y135, hy135⟩ : ∃ y_ : List (S54), y_ = (x15_3.set ((ji77) : Int).toNat (⟨false, wrap64 ((wrap64 (((rd_T54 l3 x17_2).f1) + (wrap64 (a4 * (wrap64 ((wrap64 (2 * (Int.tmod t117 2))) - 1)))))) + (wrap64 (a5 * (wrap64 ((wrap64 (2 * (Int.tmod t118 2))) - 1))))), y130⟩ : S54)) := ⟨_, rfl⟩
            replace H : (spec_l15Step.l2 kj24 a0 a1 a2 l3 a4 a5 false y135 x17_2 (wrap64 (x18_3 + 1))) = some r := by first | (rw [hy135]; with_reducible exact H) | (have H2_ := (Option.bind_some _ _).symm.trans H; rw [hy135]; with_reducible exact H2_) | (have H2_ := (Option.bind_some _ _).symm.trans H; with_reducible exact H2_) | with_reducible exact H | (rw [hy135]; exact H) | exact H
            have Ny135 := Aside0.mk hy135
            clear hy135
            have H' := Aside0.mk H
            clear H
            have hcz_0 : w55.cell? ⟨gb126, 0, none⟩ = some (.bool false) := (blk_cell BK126.out 0).trans rfl
            have hcz_1 : w55.cell? ⟨gb126, 1, none⟩ = some (.int .i64 (wrap64 ((wrap64 (((rd_T54 l3 x17_2).f1) + (wrap64 (a4 * (wrap64 ((wrap64 (2 * (Int.tmod t117 2))) - 1)))))) + (wrap64 (a5 * (wrap64 ((wrap64 (2 * (Int.tmod t118 2))) - 1))))))) := (blk_cell BK126.out 1).trans rfl
            have hcz_2 : w55.cell? ⟨gb126, 2, none⟩ = some (.slice Ao51 y123.length co51) := (blk_cell BK126.out 2).trans rfl
            have hfz_0 := blk_frozen BK126.out 0
            have hfz_1 := blk_frozen BK126.out 1
            have hfz_2 := blk_frozen BK126.out 2
            try go_wp2_with (first | ((with_reducible refine gate_builtin (b := .append) (xs := #[.tmp 98, .tmp 100]) rfl ?_); at_builtin; refine Kd.R_append (Kd.int .i64) (w0 := w) w.heap.size rfl (.tmp 98) (.tmp 100) 24 3 (.int .i64 0) 8 rfl Try.underlying24 info3 rfl (by decide) (by omega) (.slice Ao51 y123.length co51) y123 x18_3 [.int .i64 x18_3] (fun _ => True) (fun _ => False) rfl (by first | (go_simp; done) | (go_simp; rfl)) ?aP (fun _ hk => hk.elim) ?aF ?aO ?aB ?aS ?aL ?_; (case aP => exact rfl); (case aB => exact (by repeat (first | (with_reducible first | exact HB.out | apply zBa | apply zBn | apply zBd | refine zBs ?_ GE126.out) | exact HB.out))); (case aF => exact (fun _ _ => trivial)); (case aO => exact (by (with_reducible repeat (first | apply zRa | apply zRn | apply zRd)); exact HO125.out)); (case aS => exact (below_size (by repeat (first | (with_reducible first | exact HB.out | apply zBa | apply zBn | apply zBd | refine zBs ?_ GE126.out) | exact HB.out)))); (case aL => have := LMc72.out; omega); intro vap wap ho hb hg hat; (first | rw [← Ny130.out] at ho | (simp only [Int.reduceToNat] at ho; rw [← Ny130.out] at ho)); have n0_ := Aside0.mk (Kd.S_after (ok := (fun k_ => k_ ≠ gb126)) (by (with_reducible repeat (first | apply Kd.S_alloc | apply Kd.S_drewN | apply Kd.S_drew)); exact Kd.S_mono HO_15.out (fun _ hk => ⟨hk.2, hk.1⟩)) hg hat); have n1_ := Aside0.mk (blk_grown (g := gb126) (o := .cells #[.bool false, .int .i64 (wrap64 ((wrap64 (((rd_T54 l3 x17_2).f1) + (wrap64 (a4 * (wrap64 ((wrap64 (2 * (Int.tmod t117 2))) - 1)))))) + (wrap64 (a5 * (wrap64 ((wrap64 (2 * (Int.tmod t118 2))) - 1)))))), .slice Ao51 y123.length co51] 54 (0, 0)) (by (with_reducible repeat (first | apply zNn | apply zNd | apply zNa)); exact BK126.out) hg (Kd.R_ne HO125.out BK126.out (by decide))); have n2_ := Aside0.mk (hb); have n3_ := Aside0.mk (ho); clear HO_15; clear BK126; clear HB; clear HO125; have HO_15 := n0_; have BK126 := n1_; have HB := n2_; have HO132 := n3_; clear n0_ n1_ n2_ n3_; clear ho hb hg hat; obtain ⟨Ao96, co96, eo96⟩ := Kd.R_slice HO132.out; subst eo96; have hcy_0 : wap.cell? ⟨gb126, 0, none⟩ = some (.bool false) := (blk_cell BK126.out 0).trans rfl; have hcy_1 : wap.cell? ⟨gb126, 1, none⟩ = some (.int .i64 (wrap64 ((wrap64 (((rd_T54 l3 x17_2).f1) + (wrap64 (a4 * (wrap64 ((wrap64 (2 * (Int.tmod t117 2))) - 1)))))) + (wrap64 (a5 * (wrap64 ((wrap64 (2 * (Int.tmod t118 2))) - 1))))))) := (blk_cell BK126.out 1).trans rfl; have hcy_2 : wap.cell? ⟨gb126, 2, none⟩ = some (.slice Ao51 y123.length co51) := (blk_cell BK126.out 2).trans rfl; have hfy_0 := blk_frozen BK126.out 0; have hfy_1 := blk_frozen BK126.out 1; have hfy_2 := blk_frozen BK126.out 2) | ((with_reducible refine gate_store (t := 24) (p := 102) rfl ?_); refine store_event (t := 24) (p := 102) (v := ?vo_w98) (w1 := (wap.setCell ⟨gb126, 2, none⟩ (.slice Ao96 y130.length co96))) ?hg ?ho ?hn ?hr ?_; (case ho => rfl); (case hg => rfl); (case hn => rfl); (case hr => first | (go_simp; done) | (go_simp; rfl)); intro w98 hw; have n0_ : Aside0 (Kd.S k54 54 w98 w.heap.size (fun k_ => some k_ ≠ (.slice Ao96 y130.length co96 : Value).ownBlock ∧ k_ ≠ gb126) (.slice Ao18 x15_3.length co18) x15_3) := ⟨(by rw [hw]; exact (by (with_reducible repeat (first | apply Kd.S_alloc | apply Kd.S_drewN | apply Kd.S_drew)); exact Kd.S_mono (Kd.S_far (p := ⟨gb126, 2, none⟩) (Kd.S_mono HO_15.out (fun k_ hk => (⟨hk, hk.1⟩ : _ ∧ k_ ≠ gb126))) (fun _ hk => hk.2) (.slice Ao96 y130.length co96)) (fun _ hk => ⟨hk.1.2, hk.1.1⟩)))⟩; have n1_ : Aside0 (Kd.R (Kd.int .i64) 3 w98 w.heap.size (fun _ => True) (.slice Ao96 y130.length co96) y130) := ⟨(by rw [hw]; exact (by (with_reducible repeat (first | apply zRa | apply zRn | apply zRd)); exact Kd.R_mono (Kd.R_far (p := ⟨gb126, 2, none⟩) (Kd.R_types HO132.out BK126.out (by decide)) (fun _ hk => hk.2) (.slice Ao96 y130.length co96)) (fun _ hk => trivial)))⟩; have n2_ : Aside0 (w98.heap[gb126]? = some (.cells #[.bool false, .int .i64 (wrap64 ((wrap64 (((rd_T54 l3 x17_2).f1) + (wrap64 (a4 * (wrap64 ((wrap64 (2 * (Int.tmod t117 2))) - 1)))))) + (wrap64 (a5 * (wrap64 ((wrap64 (2 * (Int.tmod t118 2))) - 1)))))), .slice Ao96 y130.length co96] 54 (0, 0))) := ⟨(by rw [hw]; exact (by (with_reducible repeat (first | apply zNn | apply zNd | apply zNa)); refine blk_put (cs := #[.bool false, .int .i64 (wrap64 ((wrap64 (((rd_T54 l3 x17_2).f1) + (wrap64 (a4 * (wrap64 ((wrap64 (2 * (Int.tmod t117 2))) - 1)))))) + (wrap64 (a5 * (wrap64 ((wrap64 (2 * (Int.tmod t118 2))) - 1)))))), .slice Ao51 y123.length co51]) ?_ 2 _ rfl; (with_reducible repeat (first | apply zNn | apply zNd | apply zNa)); exact BK126.out))⟩; have n3_ : Aside0 (Below w.heap.size w w98) := ⟨(by rw [hw]; exact (by repeat (first | (with_reducible first | exact HB.out | apply zBa | apply zBn | apply zBd | refine zBs ?_ GE126.out) | exact HB.out)))⟩; clear hw; clear HO_15; clear HO132; clear BK126; clear HB; have HO_15 := n0_; have HO132 := n1_; have BK126 := n2_; have HB := n3_; clear n0_ n1_ n2_ n3_))
            refine spec_l15Step.r18 ?hq (by kernel_rfl) kj24 w w98 _ _ x15_3 gb126 Ao96 co96 y130 _ (ji77) true HO_15 HO132 BK126 HB GW126 GE126 (by first | (with_reducible assumption) | assumption) (by first | (with_reducible assumption) | assumption) A80.out ?hk
            case hq => exact fun _ _ _ _ hd h => ⟨hd.trans h.1, h.2⟩
            case hk =>
             clear HO_15 HO132 BK126 HB
             intro w99 v108 v109 v110 v111 v112 v113 v114 v115 v116 v117 v118 v119 v120 v121 v122 v123 v124 v125 v126 v127 v128 v129 v130 v131 v132 v133 v134 v135 v136 v137 v138 v139 v140 v141 HO_15 HO132 BK126 HB
             have hcx_0 : w99.cell? ⟨gb126, 0, none⟩ = some (.bool false) := (blk_cell BK126.out 0).trans rfl
             have hcx_1 : w99.cell? ⟨gb126, 1, none⟩ = some (.int .i64 (wrap64 ((wrap64 (((rd_T54 l3 x17_2).f1) + (wrap64 (a4 * (wrap64 ((wrap64 (2 * (Int.tmod t117 2))) - 1)))))) + (wrap64 (a5 * (wrap64 ((wrap64 (2 * (Int.tmod t118 2))) - 1))))))) := (blk_cell BK126.out 1).trans rfl
             have hcx_2 : w99.cell? ⟨gb126, 2, none⟩ = some (.slice Ao96 y130.length co96) := (blk_cell BK126.out 2).trans rfl
             have hfx_0 := blk_frozen BK126.out 0
             have hfx_1 := blk_frozen BK126.out 1
             have hfx_2 := blk_frozen BK126.out 2
             have p82 : 0 ≤ ((ji77) : Int) := zT (by first | (with_reducible assumption) | assumption)
             have q82 : ((ji77) : Int) < ((x15_3.length : Int) : Int) := zT (by first | (with_reducible assumption) | assumption)
             obtain ⟨go82, co82, eo82, gb82, gl82, cl82, HG82⟩ := Kd.S_form HO_15.out (by omega)
             (first | cases eo82 | (injection eo82 with ea_ en_ ec_; (first | subst ea_ | (injection ea_ with ea_; subst ea_)); subst ec_; clear en_))
             have GB82 := Aside0.mk gb82
             have GG82 := Aside0.mk HG82
             clear gb82 gl82 HG82
             obtain ⟨_, ce82, hcl82, hM82, hcc82, hfr82, _, _⟩ := Kd.S_elem HO_15.out z54 ((ji77) : Int) p82 q82
             obtain ⟨ve82_2, rfl, ge82_2⟩ := k54_openM hM82
             have hx82_0 : w99.cell? ⟨go82, ((ji77) : Int).toNat * 3, none⟩ = some (.bool ((rd_T54 x15_3 (ji77)).f0)) := hcc82 0 _ rfl
             have hx82_1 : w99.cell? ⟨go82, ((ji77) : Int).toNat * 3 + 1, none⟩ = some (.int .i64 ((rd_T54 x15_3 (ji77)).f1)) := hcc82 1 _ rfl
             have hx82_2 : w99.cell? ⟨go82, ((ji77) : Int).toNat * 3 + 2, none⟩ = some (ve82_2) := hcc82 2 _ rfl
             have hf82_0 : w99.frozen? ⟨go82, ((ji77) : Int).toNat * 3, none⟩ = false := hfr82 0
             have hf82_1 : w99.frozen? ⟨go82, ((ji77) : Int).toNat * 3 + 1, none⟩ = false := hfr82 1
             have hf82_2 : w99.frozen? ⟨go82, ((ji77) : Int).toNat * 3 + 2, none⟩ = false := hfr82 2
             (try clear hcl82 hcc82 hfr82)
             (try clear hM82)
             replace p82 := eq_true p82
             replace q82 := eq_true q82
             have HX100 := Aside0.mk (show Kd.S k54 54 w99 w.heap.size (fun k_ => ((fun k_ => k_ ≠ gb126)) k_ ∧ ¬ ((fun k_ => some k_ = (.slice Ao96 y130.length co96 : Value).ownBlock)) k_) (.slice (some ⟨go82, 0, none⟩) x15_3.length co18) x15_3 from (by (with_reducible repeat (first | apply Kd.S_alloc | apply Kd.S_drewN | apply Kd.S_drew)); exact Kd.S_mono HO_15.out (fun k_ hk => ⟨hk.2, fun e_ => hk.1 e_⟩)))
             obtain ⟨oki100, ce100, hcl100, hM100, hcc100, hfr100, hoki100, hH100⟩ := Kd.S_elem HX100.out z54 ((ji77) : Int) (zT (by first | (with_reducible assumption) | assumption)) (by have h_ : ((ji77) : Int) < ((x15_3.length : Int) : Int) := zT (by first | (with_reducible assumption) | assumption); first | exact h_ | (have e_ := (Kd.S_reads' HO_15.out).1; omega) | simpa using h_)
             obtain ⟨ve100_2, rfl, ge100_2⟩ := k54_openM hM100
             have HP100 := Kd.S_seg hH100 (zT (by first | (with_reducible assumption) | assumption)) (by have h_ : ((ji77) : Int) < ((x15_3.length : Int) : Int) := zT (by first | (with_reducible assumption) | assumption); first | exact h_ | (have e_ := (Kd.S_reads' HO_15.out).1; omega) | simpa using h_) (seg := [.bool false, .int .i64 (wrap64 ((wrap64 (((rd_T54 l3 x17_2).f1) + (wrap64 (a4 * (wrap64 ((wrap64 (2 * (Int.tmod t117 2))) - 1)))))) + (wrap64 (a5 * (wrap64 ((wrap64 (2 * (Int.tmod t118 2))) - 1)))))), .slice Ao96 y130.length co96]) (j := 0) (show 3 ≤ 3 from by decide) (x' := (⟨false, wrap64 ((wrap64 (((rd_T54 l3 x17_2).f1) + (wrap64 (a4 * (wrap64 ((wrap64 (2 * (Int.tmod t117 2))) - 1)))))) + (wrap64 (a5 * (wrap64 ((wrap64 (2 * (Int.tmod t118 2))) - 1))))), y130⟩ : S54)) (k54_mkM _ _ _ (⟨false, wrap64 ((wrap64 (((rd_T54 l3 x17_2).f1) + (wrap64 (a4 * (wrap64 ((wrap64 (2 * (Int.tmod t117 2))) - 1)))))) + (wrap64 (a5 * (wrap64 ((wrap64 (2 * (Int.tmod t118 2))) - 1))))), y130⟩ : S54) (Kd.R_mono (Kd.R_tight rfl (Kd.R_mono (ok' := fun k_ => ((fun k_ => k_ ≠ gb126)) k_ ∧ k_ ≠ go82) (Kd.R_types (Kd.R_apart' (HO132.out) (Kd.S_typed HO_15.out) (by decide)) BK126.out (by decide)) (fun k_ hk => ⟨hk.2, fun e_ => (hk.1.2) (by rw [e_]; rfl)⟩))) (fun _ h_ => Or.inr (h_)))) (fun _ hk => hk) (fun k_ hk_ => ((Kd.R_mono (ok' := fun k_ => ((fun k_ => k_ ≠ gb126)) k_ ∧ k_ ≠ go82) (Kd.R_types (Kd.R_apart' (HO132.out) (Kd.S_typed HO_15.out) (by decide)) BK126.out (by decide)) (fun k_ hk => ⟨hk.2, fun e_ => (hk.1.2) (by rw [e_]; rfl)⟩))).1 k_ hk_.symm)
             have hx100_0 := hcc100 0 _ rfl
             (try simp only [show (k54).sz = 3 from rfl, Nat.mul_one, Nat.add_zero] at hx100_0)
             have hf100_0 := hfr100 0
             (try simp only [show (k54).sz = 3 from rfl, Nat.mul_one, Nat.add_zero] at hf100_0)
             have hx100_1 := hcc100 1 _ rfl
             (try simp only [show (k54).sz = 3 from rfl, Nat.mul_one, Nat.add_zero] at hx100_1)
             have hf100_1 := hfr100 1
             (try simp only [show (k54).sz = 3 from rfl, Nat.mul_one, Nat.add_zero] at hf100_1)
             have hx100_2 := hcc100 2 _ rfl
             (try simp only [show (k54).sz = 3 from rfl, Nat.mul_one, Nat.add_zero] at hx100_2)
             have hf100_2 := hfr100 2
             (try simp only [show (k54).sz = 3 from rfl, Nat.mul_one, Nat.add_zero] at hf100_2)
             (try clear hcl100 hcc100 hfr100 hoki100 hH100)
             (try clear hM100)
             try go_wp2_with (first | ((with_reducible refine gate_store (t := 54) (p := 146) rfl ?_); refine store_event (t := 54) (p := 146) (v := ?vo_w101) (w1 := (((w99.setCell ⟨go82, ((ji77) : Int).toNat * 3, none⟩ (.bool false)).setCell ⟨go82, ((ji77) : Int).toNat * 3 + 1, none⟩ (.int .i64 (wrap64 ((wrap64 (((rd_T54 l3 x17_2).f1) + (wrap64 (a4 * (wrap64 ((wrap64 (2 * (Int.tmod t117 2))) - 1)))))) + (wrap64 (a5 * (wrap64 ((wrap64 (2 * (Int.tmod t118 2))) - 1)))))))).setCell ⟨go82, ((ji77) : Int).toNat * 3 + 2, none⟩ (.slice Ao96 y130.length co96))) ?hg ?ho ?hn ?hr ?_; (case ho => rfl); (case hg => rfl); (case hn => rfl); (case hr => first | (go_simp; done) | (go_simp; rfl)); intro w101 hw; have hg : w99.grownBy w101 (some go82) := (by rw [hw]; exact HP100.2); have hp_ : Kd.S k54 54 w101 w.heap.size (fun k_ => k_ ≠ gb126) (.slice (some ⟨go82, 0, none⟩) x15_3.length co18) y135 := (by rw [hw, Ny135.out]; exact HP100.1); clear HP100; have n0_ := Aside0.mk (hp_); have n1_ := Aside0.mk (blk_grown (g := gb126) (o := .cells #[.bool false, .int .i64 (wrap64 ((wrap64 (((rd_T54 l3 x17_2).f1) + (wrap64 (a4 * (wrap64 ((wrap64 (2 * (Int.tmod t117 2))) - 1)))))) + (wrap64 (a5 * (wrap64 ((wrap64 (2 * (Int.tmod t118 2))) - 1)))))), .slice Ao96 y130.length co96] 54 (0, 0)) (by (with_reducible repeat (first | apply zNn | apply zNd | apply zNa)); exact BK126.out) hg (Kd.S_away HO_15.out (fun _ hk => hk.2))); have n3_ := Aside0.mk ((by rw [hw]; exact zBs (zBs (zBs (HB.out) GB82.out) GB82.out) GB82.out : Below w.heap.size w w101)); clear HO_15; clear BK126; clear HB; clear HO132; have HO_15 := n0_; have BK126 := n1_; have HB := n3_; clear n0_ n1_ n3_; clear hg hw hp_))
             (try simp only [← hl15_3])
             go_roundg kj24
             case measure => have := HK1.out; have := HK2.out; have := HK3.out; have := HJ19.out; have := HJ24.out; omega
             case rel => exact ⟨(y135), (wrap64 (x18_3 + 1)), (by first | rfl | (simp; done) | (simp [*]; done)), H', ⟨by have := HK1.out; have := HK2.out; have := HK3.out; have := HJ19.out; have := HJ24.out; omega⟩, ⟨by (try simp only [hl15_2]); (try simp only [hl15_3]); (with_reducible repeat (first | apply Kd.S_alloc | apply Kd.S_drewN | apply Kd.S_drew)); first | exact Kd.S_mono HO_15.out (fun _ hk => trivial) | (subst_vars; exact Kd.S_mono HO_15.out (fun _ hk => trivial))⟩, ⟨by repeat (first | (with_reducible first | exact HB.out | apply zBa | apply zBn | apply zBd | refine zBs ?_ GE126.out) | exact HB.out)⟩⟩


end Go.Proofs.Ytoggbgkpeigfmaa.PFnScored
