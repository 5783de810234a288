-- Written by a turned copy of the print (see the notes of this repo): plain functions and their walks. Lean checks it.
import Derived.Test.YtoggbgkpeigfmaaPFnScoredx0
import Derived.Test.YtoggbgkpeigfmaaPFnScoredx3
import Derived.Test.YtoggbgkpeigfmaaPFnScoredx8
namespace Go.Proofs.Ytoggbgkpeigfmaa.PFnScored
open Go.RowKit Go.Proofs.YtoggbgkpeigfmaaW.PrintWords Go.Proofs.YtoggbgkpeigfmaaW.PrintLast Go.Proofs.YtoggbgkpeigfmaaW.PrintMore
attribute [local go_sem] max2_int min2_int max_two min_two max_three min_three max_four min_four   -- for this text's walks alone
set_option linter.unusedVariables false
set_option linter.unusedSimpArgs false

/-! ### spec_Spread: function 34 -/
mutual
def spec_Spread.j0 : Nat → Int → Int → Int → List Int → List Int → Bool → Option (List Int × Bool)
 | 0, _, _, _, _, _, _ => none
 | k + 1, x0, x1, x2, x3, x10, x29 => if x29 = true then (some (x10, false)) else (spec_Spread.l0 k x0 x1 x2 x3 x10 0 0)
def spec_Spread.l0 : Nat → Int → Int → Int → List Int → List Int → Int → Int → Option (List Int × Bool)
 | 0, _, _, _, _, _, _, _ => none
 | k + 1, x0, x1, x2, x3, x10, x11, x12 => if x12 < (wrap64 ((x3.length : Int) + x0)) then (if x12 < (x3.length : Int) then (if 0 ≤ x12 then (if 0 ≤ (IntKind.u64.wrap (wrap64 (x0 + 1))) then (if (shl .i64 1 (IntKind.u64.wrap (wrap64 (x0 + 1)))) = 0 then (none) else ((spec_l14Ones.f k (Go.bits .and .i64 (Int.tmod (wrap64 ((wrap64 (2 * x11)) + (rd x3 x12))) (shl .i64 1 (IntKind.u64.wrap (wrap64 (x0 + 1))))) x1)).bind fun t226 => ((spec_l14Ones.f k (Go.bits .and .i64 (Int.tmod (wrap64 ((wrap64 (2 * x11)) + (rd x3 x12))) (shl .i64 1 (IntKind.u64.wrap (wrap64 (x0 + 1))))) x2)).bind fun t227 => ((some (([Int.tmod t226 2, Int.tmod t227 2] : List Int) : List Int)).bind fun y228 => (if x10.length + y228.length < 17592186044416 then (spec_Spread.l0 k x0 x1 x2 x3 (x10 ++ y228) (Int.tmod (wrap64 ((wrap64 (2 * x11)) + (rd x3 x12))) (shl .i64 1 (IntKind.u64.wrap (wrap64 (x0 + 1))))) (wrap64 (x12 + 1))) else (none)))))) else (none)) else (none)) else (if 0 ≤ (IntKind.u64.wrap (wrap64 (x0 + 1))) then (if (shl .i64 1 (IntKind.u64.wrap (wrap64 (x0 + 1)))) = 0 then (none) else ((spec_l14Ones.f k (Go.bits .and .i64 (Int.tmod (wrap64 ((wrap64 (2 * x11)))) (shl .i64 1 (IntKind.u64.wrap (wrap64 (x0 + 1))))) x1)).bind fun t234 => ((spec_l14Ones.f k (Go.bits .and .i64 (Int.tmod (wrap64 ((wrap64 (2 * x11)))) (shl .i64 1 (IntKind.u64.wrap (wrap64 (x0 + 1))))) x2)).bind fun t235 => ((some (([Int.tmod t234 2, Int.tmod t235 2] : List Int) : List Int)).bind fun y236 => (if x10.length + y236.length < 17592186044416 then (spec_Spread.l0 k x0 x1 x2 x3 (x10 ++ y236) (Int.tmod (wrap64 ((wrap64 (2 * x11)))) (shl .i64 1 (IntKind.u64.wrap (wrap64 (x0 + 1))))) (wrap64 (x12 + 1))) else (none)))))) else (none))) else (some (x10, true))
end
def spec_Spread.f (k : Nat) (a0 : Int) (a1 : Int) (a2 : Int) (l3 : List Int) : Option (List Int × Bool) := (some (([] : List Int) : List Int)).bind fun y220 => ((spec_l15Coder.f a0 a1 a2).bind fun t223 => (if t223 = true then ((spec_BitsOk.f k l3).bind fun t224 => (if t224 = true then (spec_Spread.j0 k a0 a1 a2 l3 y220 (decide ((l3.length : Int) > 120))) else (spec_Spread.j0 k a0 a1 a2 l3 y220 true))) else (spec_Spread.j0 k a0 a1 a2 l3 y220 true)))
theorem spec_Spread.mono_l : ∀ k, (∀ y0 y1 y2 y3 y4 y5, LeO (spec_Spread.j0 k y0 y1 y2 y3 y4 y5) (spec_Spread.j0 (k + 1) y0 y1 y2 y3 y4 y5)) ∧ (∀ y0 y1 y2 y3 y4 y5 y6, LeO (spec_Spread.l0 k y0 y1 y2 y3 y4 y5 y6) (spec_Spread.l0 (k + 1) y0 y1 y2 y3 y4 y5 y6))
 | 0 => ⟨fun _ _ _ _ _ _ r h => by simp [spec_Spread.j0] at h, fun _ _ _ _ _ _ _ r h => by simp [spec_Spread.l0] at h⟩
 | k + 1 => by
  obtain ⟨ih0, ih1⟩ := spec_Spread.mono_l k
  refine ⟨?_, ?_⟩
  ·intro y0 y1 y2 y3 y4 y5
   unfold spec_Spread.j0
   repeat' first
   | (with_reducible exact ih0 _ _ _ _ _ _)
   | (with_reducible exact ih1 _ _ _ _ _ _ _)
   | (with_reducible exact spec_BitsOk.mono _ _)
   | (with_reducible exact spec_l14Ones.mono _ _)
   | (with_reducible exact LeO.refl _)
   | (with_reducible exact LeO.none _)
   | (with_reducible refine LeO.ite ?_ ?_)
   | (with_reducible refine LeO.bind ?_ (fun _ => ?_))
   | exact ih0 _ _ _ _ _ _
   | exact ih1 _ _ _ _ _ _ _
   | exact spec_BitsOk.mono _ _
   | exact spec_l14Ones.mono _ _
   | exact LeO.none _
   | refine LeO.ite ?_ ?_
   | refine LeO.bind ?_ (fun _ => ?_)
  ·intro y0 y1 y2 y3 y4 y5 y6
   unfold spec_Spread.l0
   repeat' first
   | (with_reducible exact ih0 _ _ _ _ _ _)
   | (with_reducible exact ih1 _ _ _ _ _ _ _)
   | (with_reducible exact spec_BitsOk.mono _ _)
   | (with_reducible exact spec_l14Ones.mono _ _)
   | (with_reducible exact LeO.refl _)
   | (with_reducible exact LeO.none _)
   | (with_reducible refine LeO.ite ?_ ?_)
   | (with_reducible refine LeO.bind ?_ (fun _ => ?_))
   | exact ih0 _ _ _ _ _ _
   | exact ih1 _ _ _ _ _ _ _
   | exact spec_BitsOk.mono _ _
   | exact spec_l14Ones.mono _ _
   | exact LeO.none _
   | refine LeO.ite ?_ ?_
   | refine LeO.bind ?_ (fun _ => ?_)
theorem spec_Spread.mono : ∀ a0 a1 a2 a3 k, LeO (spec_Spread.f k a0 a1 a2 a3) (spec_Spread.f (k + 1) a0 a1 a2 a3) := by
 intro a0 a1 a2 a3 k
 obtain ⟨ih0, ih1⟩ := spec_Spread.mono_l k
 unfold spec_Spread.f
 repeat' first
  | (with_reducible exact ih0 _ _ _ _ _ _)
  | (with_reducible exact ih1 _ _ _ _ _ _ _)
  | (with_reducible exact spec_BitsOk.mono _ _)
  | (with_reducible exact spec_l14Ones.mono _ _)
  | (with_reducible exact LeO.refl _)
  | (with_reducible exact LeO.none _)
  | (with_reducible refine LeO.ite ?_ ?_)
  | (with_reducible refine LeO.bind ?_ (fun _ => ?_))
  | exact ih0 _ _ _ _ _ _
  | exact ih1 _ _ _ _ _ _ _
  | exact spec_BitsOk.mono _ _
  | exact spec_l14Ones.mono _ _
  | exact LeO.none _
  | refine LeO.ite ?_ ?_
  | refine LeO.bind ?_ (fun _ => ?_)
set_option maxHeartbeats 8000000 in
set_option maxRecDepth 100000 in
theorem spec_Spread.calls (k : Nat) (a0 : Int) (a1 : Int) (a2 : Int) (A3 : Option Addr) (c3 : Nat) (l3 : List Int) (r1 : List Int) (r2 : Bool) (w : World) (hr3 : Kd.C (Kd.int .i64) w A3 l3.length l3) (hc3 : l3.length ≤ c3) (h : spec_Spread.f k a0 a1 a2 l3 = some (r1, r2)) :
 Calls Try.prog 34 #[.int .i64 a0, .int .i64 a1, .int .i64 a2, .slice A3 l3.length c3] w fun e w' => ∃ v0_ : Value, e = .returned (.tuple #[v0_, .bool r2]) ∧ Kd.R (Kd.int .i64) 3 w' w.heap.size (fun _ => True) v0_ r1 ∧ Below w.heap.size w w' := by
 have HR3 := Aside0.mk hr3
 have HC3 := Aside0.mk hc3
 clear hr3 hc3
 have HB := Aside0.mk (Below.refl w.heap.size w)
 have H : ((some (([] : List Int) : List Int)).bind fun y220 => ((spec_l15Coder.f a0 a1 a2).bind fun t223 => (if t223 = true then ((spec_BitsOk.f k l3).bind fun t224 => (if t224 = true then (spec_Spread.j0 k a0 a1 a2 l3 y220 (decide ((l3.length : Int) > 120))) else (spec_Spread.j0 k a0 a1 a2 l3 y220 true))) else (spec_Spread.j0 k a0 a1 a2 l3 y220 true)))) = some (r1, r2) := h
 clear h
 obtain ⟨y220, hy220⟩ : ∃ y_ : List Int, y_ = (([] : List Int)) := ⟨_, rfl⟩
 replace H : ((spec_l15Coder.f a0 a1 a2).bind fun t223 => (if t223 = true then ((spec_BitsOk.f k l3).bind fun t224 => (if t224 = true then (spec_Spread.j0 k a0 a1 a2 l3 y220 (decide ((l3.length : Int) > 120))) else (spec_Spread.j0 k a0 a1 a2 l3 y220 true))) else (spec_Spread.j0 k a0 a1 a2 l3 y220 true))) = some (r1, r2) := by first | (rw [hy220]; with_reducible exact H) | (have H2_ := (Option.bind_some _ _).symm.trans H; rw [hy220]; with_reducible exact H2_) | (have H2_ := (Option.bind_some _ _).symm.trans H; with_reducible exact H2_) | with_reducible exact H | (rw [hy220]; exact H) | exact H
 have Ny220 := Aside0.mk hy220
 clear hy220
 have HC5 := Aside0.mk H
 clear H
 go_enter Try.func34, Try.ntmps34
 go_upto_region 2 with (first | ((with_reducible refine gate_dst (N := 14) rfl ?_); (try (refine gate_guard (by rfl) ?_; dsimp only)); refine Kd.R_lit (Kd.int .i64) _ 3 ?hg (N := 14) ?hd (xs := ([] : List Int)) (inner := []) (ok := fun _ => True) (okp := fun _ => True) ?hr ?hp (fun _ hk => hk) trivial (Below.refl _ _) (Nat.le_refl _) (by simp) ?_; (case hd => rfl); (case hg => rfl); (case hr => first | (go_simp; done) | (go_simp; rfl)); (case hp => exact (Reps.none _ _)); intro v221 w6 ho7 hb hg_ hnew_; clear hg_ hnew_; (first | rw [← Ny220.out] at ho7 | (simp only [Int.reduceToNat] at ho7; rw [← Ny220.out] at ho7)); have n0_ := Aside0.mk (Kd.R_lower ho7 (below_size (by repeat (first | (with_reducible first | exact HB.out | apply zBa | apply zBn | apply zBd) | exact HB.out)))); have n1_ := Aside0.mk (below_step (by repeat (first | (with_reducible first | exact HB.out | apply zBa | apply zBn | apply zBd) | exact HB.out)) hb); clear HB; have HO222 := n0_; have HB := n1_; clear n0_ n1_; clear hb ho7))
 (try simp only [Act.put, List.setIfInBounds_toArray, List.set_cons_zero, List.set_cons_succ])
 go_cut [29] (fun v29 wc => ∃ (kq : Nat) (x29_4 : Bool), v29 = .bool x29_4 ∧ Aside0 (spec_Spread.j0 kq a0 a1 a2 l3 y220 x29_4 = some (r1, r2)) ∧ Aside0 (kq ≤ k) ∧ Aside0 (Kd.R (Kd.int .i64) 3 wc w.heap.size (fun _ => True) v221 y220) ∧ Aside0 (Below w.heap.size w wc))
 case first =>
  have H := HC5.out
  clear HC5
  replace H := Option.bind_eq_some_iff.mp H
  obtain ⟨t223, A80, H⟩ := H
  replace H : (if t223 = true then ((spec_BitsOk.f k l3).bind fun t224 => (if t224 = true then (spec_Spread.j0 k a0 a1 a2 l3 y220 (decide ((l3.length : Int) > 120))) else (spec_Spread.j0 k a0 a1 a2 l3 y220 true))) else (spec_Spread.j0 k a0 a1 a2 l3 y220 true)) = some (r1, r2) := H
  have A8 := Aside0.mk A80
  clear A80
  by_cases c9 : t223 = true
  case neg =>
   replace c9 := Bool.eq_false_iff.mpr c9
   subst c9
   have H1 : (spec_Spread.j0 k a0 a1 a2 l3 y220 true) = some (r1, r2) := by rw [if_neg (show ¬ (false = true) by decide)] at H; exact H
   clear H
   have H := H1
   clear H1
   have H' := Aside0.mk H
   clear H
   go_wp2_with (first | ((with_reducible refine gate_callee (f := 28) rfl ?_); refine goesL_ (some 18) rfl rfl Try.func28 (by kernel_rfl) rfl #[.int .i64 a0, .int .i64 a1, .int .i64 a2] rfl (by (try simp only [List.map_toArray, List.map_cons, List.map_nil]); first | done | rfl | (simp only [List.length_drop, List.length_take]; rfl)) ?_; (with_reducible refine (spec_l15Coder.calls a0 a1 a2 false _ A8.out).mono ?_); rintro e w' ⟨rfl, ⟨nd, rfl⟩⟩; refine ⟨_, rfl, ?_⟩))
   go_meet
   case rel => exact ⟨_, (true), (by first | rfl | (simp; done) | (simp [*]; done)), H', ⟨by first | omega | exact Nat.le_refl _⟩, ⟨by (with_reducible repeat (first | apply zRa | apply zRn | apply zRd)); first | exact HO222.out | (subst_vars; exact HO222.out)⟩, ⟨by repeat (first | (with_reducible first | exact HB.out | apply zBa | apply zBn | apply zBd) | exact HB.out)⟩⟩
  subst c9
  have H1 : ((spec_BitsOk.f k l3).bind fun t224 => (if t224 = true then (spec_Spread.j0 k a0 a1 a2 l3 y220 (decide ((l3.length : Int) > 120))) else (spec_Spread.j0 k a0 a1 a2 l3 y220 true))) = some (r1, r2) := by rw [if_pos rfl] at H; exact H
  clear H
  have H := H1
  clear H1
  replace H := Option.bind_eq_some_iff.mp H
  obtain ⟨t224, A100, H⟩ := H
  replace H : (if t224 = true then (spec_Spread.j0 k a0 a1 a2 l3 y220 (decide ((l3.length : Int) > 120))) else (spec_Spread.j0 k a0 a1 a2 l3 y220 true)) = some (r1, r2) := H
  have A10 := Aside0.mk A100
  clear A100
  by_cases c11 : t224 = true
  case pos =>
   subst c11
   have H1 : (spec_Spread.j0 k a0 a1 a2 l3 y220 (decide ((l3.length : Int) > 120))) = some (r1, r2) := by rw [if_pos rfl] at H; exact H
   clear H
   have H := H1
   clear H1
   have H' := Aside0.mk H
   clear H
   go_wp2_with (first | ((with_reducible refine gate_callee (f := 28) rfl ?_); refine goesL_ (some 18) rfl rfl Try.func28 (by kernel_rfl) rfl #[.int .i64 a0, .int .i64 a1, .int .i64 a2] rfl (by (try simp only [List.map_toArray, List.map_cons, List.map_nil]); first | done | rfl | (simp only [List.length_drop, List.length_take]; rfl)) ?_; (with_reducible refine (spec_l15Coder.calls a0 a1 a2 true _ A8.out).mono ?_); rintro e w' ⟨rfl, ⟨nd, rfl⟩⟩; refine ⟨_, rfl, ?_⟩) | (go_at_call 43; (with_reducible refine (spec_BitsOk.calls k _ _ l3 true _ ?side1 ?side2 A10.out).mono ?_); (case side1 => repeat (first | exact (Kd.C_below HR3.out (by repeat (first | (with_reducible first | exact HB.out | apply zBa | apply zBn | apply zBd) | exact HB.out))) | (with_reducible first | refine zCa ?_ _ | refine zCn ?_ _ | refine zCd ?_))); (case side2 => exact HC3.out); rintro e w' ⟨rfl, ⟨nd, rfl⟩⟩))
   go_meet
   case rel => exact ⟨_, (decide ((l3.length : Int) > 120)), (by first | rfl | (simp; done) | (simp [*]; done)), H', ⟨by first | omega | exact Nat.le_refl _⟩, ⟨by (with_reducible repeat (first | apply zRa | apply zRn | apply zRd)); first | exact HO222.out | (subst_vars; exact HO222.out)⟩, ⟨by repeat (first | (with_reducible first | exact HB.out | apply zBa | apply zBn | apply zBd) | exact HB.out)⟩⟩
  replace c11 := Bool.eq_false_iff.mpr c11
  subst c11
  have H1 : (spec_Spread.j0 k a0 a1 a2 l3 y220 true) = some (r1, r2) := by rw [if_neg (show ¬ (false = true) by decide)] at H; exact H
  clear H
  have H := H1
  clear H1
  have H' := Aside0.mk H
  clear H
  go_wp2_with (first | ((with_reducible refine gate_callee (f := 28) rfl ?_); refine goesL_ (some 18) rfl rfl Try.func28 (by kernel_rfl) rfl #[.int .i64 a0, .int .i64 a1, .int .i64 a2] rfl (by (try simp only [List.map_toArray, List.map_cons, List.map_nil]); first | done | rfl | (simp only [List.length_drop, List.length_take]; rfl)) ?_; (with_reducible refine (spec_l15Coder.calls a0 a1 a2 true _ A8.out).mono ?_); rintro e w' ⟨rfl, ⟨nd, rfl⟩⟩; refine ⟨_, rfl, ?_⟩) | (go_at_call 43; (with_reducible refine (spec_BitsOk.calls k _ _ l3 false _ ?side1 ?side2 A10.out).mono ?_); (case side1 => repeat (first | exact (Kd.C_below HR3.out (by repeat (first | (with_reducible first | exact HB.out | apply zBa | apply zBn | apply zBd) | exact HB.out))) | (with_reducible first | refine zCa ?_ _ | refine zCn ?_ _ | refine zCd ?_))); (case side2 => exact HC3.out); rintro e w' ⟨rfl, ⟨nd, rfl⟩⟩))
  go_meet
  case rel => exact ⟨_, (true), (by first | rfl | (simp; done) | (simp [*]; done)), H', ⟨by first | omega | exact Nat.le_refl _⟩, ⟨by (with_reducible repeat (first | apply zRa | apply zRn | apply zRd)); first | exact HO222.out | (subst_vars; exact HO222.out)⟩, ⟨by repeat (first | (with_reducible first | exact HB.out | apply zBa | apply zBn | apply zBd) | exact HB.out)⟩⟩
 case rest =>
  clear HC5
  try clear c1
  try clear c2
  try clear p2
  try clear c3
  try clear c9
  try clear c11
  obtain ⟨kq, x29_4, rfl, HA, HJ4, HO_10, HB⟩ := hcut
  cases kq with
  | zero => exact absurd HA.out (by simp [spec_Spread.j0])
  | succ kj4 =>
   have H := HA.out
   clear HA
   simp only [spec_Spread.j0] at H
   by_cases c12 : x29_4 = true
   case pos =>
    subst c12
    have H1 : (some (y220, false)) = some (r1, r2) := by rw [if_pos rfl] at H; exact H
    clear H
    have H := H1
    clear H1
    simp only [Option.some.injEq, Prod.mk.injEq] at H
    obtain ⟨rfl, rfl⟩ := H
    go_wp2
    go_ret2
    exact ⟨_, by first | rfl | (simp [errW_none, errW_some] <;> rfl) | (simp [*, errW_none, errW_some] <;> rfl), by (with_reducible repeat (first | apply zRa | apply zRn | apply zRd)); first | exact HO_10.out | (subst_vars; exact HO_10.out), by repeat (first | (with_reducible first | exact HB.out | apply zBa | apply zBn | apply zBd) | exact HB.out)⟩
   replace c12 := Bool.eq_false_iff.mpr c12
   subst c12
   have H1 : (spec_Spread.l0 kj4 a0 a1 a2 l3 y220 0 0) = some (r1, r2) := by rw [if_neg (show ¬ (false = true) by decide)] at H; exact H
   clear H
   have H := H1
   clear H1
   have H' := Aside0.mk H
   clear H
   go_wp2
   (try simp only [Act.put, List.setIfInBounds_toArray, List.set_cons_zero, List.set_cons_succ])
   go_loopg [10, 11, 12] kj4 (fun kq v10 v11 v12 w' => ∃ (x10_2 : List Int) (x11_2 : Int) (x12_2 : Int), v11 = .int .i64 x11_2 ∧ v12 = .int .i64 x12_2 ∧ Aside0 (spec_Spread.l0 kq a0 a1 a2 l3 x10_2 x11_2 x12_2 = some (r1, r2)) ∧ Aside0 (kq ≤ kj4) ∧ Aside0 (Kd.R (Kd.int .i64) 3 w' w.heap.size (fun _ => True) v10 x10_2) ∧ Aside0 (Below w.heap.size w w'))
   case atStart => exact ⟨(y220), (0), (0), (by first | rfl | (simp; done) | (simp [*]; done)), (by first | rfl | (simp; done) | (simp [*]; done)), H', ⟨Nat.le_refl _⟩, ⟨by (with_reducible repeat (first | apply zRa | apply zRn | apply zRd)); first | exact HO_10.out | (subst_vars; exact HO_10.out)⟩, ⟨by repeat (first | (with_reducible first | exact HB.out | apply zBa | apply zBn | apply zBd) | exact HB.out)⟩⟩
   case round =>
    clear H'
    try clear c1
    try clear c2
    try clear p2
    try clear c3
    try clear c9
    try clear c11
    try clear c12
    try clear p2
    obtain ⟨x10_2, x11_2, x12_2, rfl, rfl, HA, HK2, HO_10, HB⟩ := hrel
    cases gk with
    | zero => exact absurd HA.out (by simp [spec_Spread.l0])
    | succ k2 =>
     have H := HA.out
     clear HA
     simp only [spec_Spread.l0] at H
     by_cases c13 : x12_2 < (wrap64 ((l3.length : Int) + a0))
     case neg =>
      rw [if_neg c13] at H
      have c13b0 : decide (x12_2 < (wrap64 ((l3.length : Int) + a0))) = false := decide_eq_false c13
      clear c13
      simp only [Option.some.injEq, Prod.mk.injEq] at H
      obtain ⟨rfl, rfl⟩ := H
      go_wp2
      go_ret2
      exact ⟨_, by first | rfl | (simp [errW_none, errW_some] <;> rfl) | (simp [*, errW_none, errW_some] <;> rfl), by (with_reducible repeat (first | apply zRa | apply zRn | apply zRd)); first | exact HO_10.out | (subst_vars; exact HO_10.out), by repeat (first | (with_reducible first | exact HB.out | apply zBa | apply zBn | apply zBd) | exact HB.out)⟩
     rw [if_pos c13] at H
     have c13b0 : decide (x12_2 < (wrap64 ((l3.length : Int) + a0))) = true := zE c13
     clear c13
     by_cases c14 : x12_2 < (l3.length : Int)
     case neg =>
      rw [if_neg c14] at H
      have c14b0 : decide (x12_2 < (l3.length : Int)) = false := decide_eq_false c14
      clear c14
      obtain ⟨ji27, hji27⟩ : ∃ j_ : Int, (IntKind.u64.wrap (wrap64 (a0 + 1))) = j_ := ⟨_, rfl⟩
      replace H : (if 0 ≤ (ji27) then (if (shl .i64 1 (ji27)) = 0 then (none) else ((spec_l14Ones.f k2 (Go.bits .and .i64 (Int.tmod (wrap64 ((wrap64 (2 * x11_2)))) (shl .i64 1 (ji27))) a1)).bind fun t234 => ((spec_l14Ones.f k2 (Go.bits .and .i64 (Int.tmod (wrap64 ((wrap64 (2 * x11_2)))) (shl .i64 1 (ji27))) a2)).bind fun t235 => ((some (([Int.tmod t234 2, Int.tmod t235 2] : List Int) : List Int)).bind fun y236 => (if x10_2.length + y236.length < 17592186044416 then (spec_Spread.l0 k2 a0 a1 a2 l3 (x10_2 ++ y236) (Int.tmod (wrap64 ((wrap64 (2 * x11_2)))) (shl .i64 1 (ji27))) (wrap64 (x12_2 + 1))) else (none)))))) else (none)) = some (r1, r2) := by first | (rw [hji27] at H; exact H) | (simp only [hji27] at H ⊢; exact H)
      by_cases c28 : 0 ≤ (ji27)
      case neg =>
       rw [if_neg c28] at H
       exact absurd H (by simp)
      rw [if_pos c28] at H
      have c28b0 := eq_true c28
      have c28b1 : decide (0 ≤ (ji27)) = true := zE c28
      clear c28
      obtain ⟨ji29, hji29⟩ : ∃ j_ : Int, (shl .i64 1 (ji27)) = j_ := ⟨_, rfl⟩
      replace H : (if (ji29) = 0 then (none) else ((spec_l14Ones.f k2 (Go.bits .and .i64 (Int.tmod (wrap64 ((wrap64 (2 * x11_2)))) (ji29)) a1)).bind fun t234 => ((spec_l14Ones.f k2 (Go.bits .and .i64 (Int.tmod (wrap64 ((wrap64 (2 * x11_2)))) (ji29)) a2)).bind fun t235 => ((some (([Int.tmod t234 2, Int.tmod t235 2] : List Int) : List Int)).bind fun y236 => (if x10_2.length + y236.length < 17592186044416 then (spec_Spread.l0 k2 a0 a1 a2 l3 (x10_2 ++ y236) (Int.tmod (wrap64 ((wrap64 (2 * x11_2)))) (ji29)) (wrap64 (x12_2 + 1))) else (none)))))) = some (r1, r2) := by first | (rw [hji29] at H; exact H) | (simp only [hji29] at H ⊢; exact H)
      have hji29_ : (IntKind.i64.wrap (1 * 2 ^ min (ji27).toNat 64)) = ji29 := hji29
      have hji29z : (ji27) ≤ 64 → (IntKind.i64.wrap (1 * 2 ^ (ji27).toNat)) = ji29 := shl_small hji29
      have hji29u : (IntKind.i64.wrap (2 ^ min (ji27).toNat 64)) = ji29 := by have h_ := hji29_; rw [Int.one_mul] at h_; exact h_
      have hji29v : (ji27) ≤ 64 → (IntKind.i64.wrap (2 ^ (ji27).toNat)) = ji29 := fun hle_ => by have h_ := hji29z hle_; rw [Int.one_mul] at h_; exact h_
      have hji29y : (wrap64 (1 * 2 ^ min (ji27).toNat 64)) = ji29 := (i64_w _).symm.trans hji29_
      have hji29x : (ji27) ≤ 64 → (wrap64 (1 * 2 ^ (ji27).toNat)) = ji29 := fun h_ => (i64_w _).symm.trans (hji29z h_)
      by_cases c30 : (ji29) = 0
      case pos =>
       rw [if_pos c30] at H
       exact absurd H (by simp)
      rw [if_neg c30] at H
      have c30b0 : ((ji29) == 0) = false := beq_eq_false_iff_ne.mpr c30
      have c30b1 : ((ji29) != 0) = true := bne_iff_ne.mpr c30
      replace H := Option.bind_eq_some_iff.mp H
      obtain ⟨t234, A310, H⟩ := H
      replace H : ((spec_l14Ones.f k2 (Go.bits .and .i64 (Int.tmod (wrap64 ((wrap64 (2 * x11_2)))) (ji29)) a2)).bind fun t235 => ((some (([Int.tmod t234 2, Int.tmod t235 2] : List Int) : List Int)).bind fun y236 => (if x10_2.length + y236.length < 17592186044416 then (spec_Spread.l0 k2 a0 a1 a2 l3 (x10_2 ++ y236) (Int.tmod (wrap64 ((wrap64 (2 * x11_2)))) (ji29)) (wrap64 (x12_2 + 1))) else (none)))) = some (r1, r2) := H
      have A31 := Aside0.mk A310
      clear A310
      replace H := Option.bind_eq_some_iff.mp H
      obtain ⟨t235, A320, H⟩ := H
      replace H : ((some (([Int.tmod t234 2, Int.tmod t235 2] : List Int) : List Int)).bind fun y236 => (if x10_2.length + y236.length < 17592186044416 then (spec_Spread.l0 k2 a0 a1 a2 l3 (x10_2 ++ y236) (Int.tmod (wrap64 ((wrap64 (2 * x11_2)))) (ji29)) (wrap64 (x12_2 + 1))) else (none))) = some (r1, r2) := H
      have A32 := Aside0.mk A320
      clear A320
      obtain ⟨y236, hy236⟩ : ∃ y_ : List Int, y_ = (([Int.tmod t234 2, Int.tmod t235 2] : List Int)) := ⟨_, rfl⟩
      replace H : (if x10_2.length + y236.length < 17592186044416 then (spec_Spread.l0 k2 a0 a1 a2 l3 (x10_2 ++ y236) (Int.tmod (wrap64 ((wrap64 (2 * x11_2)))) (ji29)) (wrap64 (x12_2 + 1))) else (none)) = some (r1, r2) := by first | (rw [hy236]; with_reducible exact H) | (have H2_ := (Option.bind_some _ _).symm.trans H; rw [hy236]; with_reducible exact H2_) | (have H2_ := (Option.bind_some _ _).symm.trans H; with_reducible exact H2_) | with_reducible exact H | (rw [hy236]; exact H) | exact H
      have Ny236 := Aside0.mk hy236
      clear hy236
      by_cases c33 : x10_2.length + y236.length < 17592186044416
      case neg =>
       rw [if_neg c33] at H
       exact absurd H (by simp)
      rw [if_pos c33] at H
      have LMc33 := Aside0.mk c33
      clear c33
      obtain ⟨y239, hy239⟩ : ∃ y_ : List Int, y_ = (x10_2 ++ y236) := ⟨_, rfl⟩
      replace H : (spec_Spread.l0 k2 a0 a1 a2 l3 y239 (Int.tmod (wrap64 ((wrap64 (2 * x11_2)))) (ji29)) (wrap64 (x12_2 + 1))) = some (r1, r2) := by first | (rw [hy239]; with_reducible exact H) | (have H2_ := (Option.bind_some _ _).symm.trans H; rw [hy239]; with_reducible exact H2_) | (have H2_ := (Option.bind_some _ _).symm.trans H; with_reducible exact H2_) | with_reducible exact H | (rw [hy239]; exact H) | exact H
      have Ny239 := Aside0.mk hy239
      clear hy239
      have H' := Aside0.mk H
      clear H
      go_wp2_with (first | ((with_reducible refine gate_callee (f := 41) rfl ?_); refine goesL_ (some 60) rfl rfl Try.func41 (by kernel_rfl) rfl #[.int .i64 (Go.bits .and .i64 (Int.tmod (wrap64 ((wrap64 (2 * x11_2)))) (ji29)) a1)] rfl (by (try simp only [List.map_toArray, List.map_cons, List.map_nil]); first | done | (simp only [hji29]; rfl) | rfl | (simp only [List.length_drop, List.length_take]; rfl)) ?_; (with_reducible refine (spec_l14Ones.calls k2 (Go.bits .and .i64 (Int.tmod (wrap64 ((wrap64 (2 * x11_2)))) (ji29)) a1) t234 _ A31.out).mono ?_); rintro e w' ⟨rfl, ⟨nd, rfl⟩⟩; refine ⟨_, rfl, ?_⟩) | ((with_reducible refine gate_callee (f := 41) rfl ?_); refine goesL_ (some 65) rfl rfl Try.func41 (by kernel_rfl) rfl #[.int .i64 (Go.bits .and .i64 (Int.tmod (wrap64 ((wrap64 (2 * x11_2)))) (ji29)) a2)] rfl (by (try simp only [List.map_toArray, List.map_cons, List.map_nil]); first | done | (simp only [hji29]; rfl) | rfl | (simp only [List.length_drop, List.length_take]; rfl)) ?_; (with_reducible refine (spec_l14Ones.calls k2 (Go.bits .and .i64 (Int.tmod (wrap64 ((wrap64 (2 * x11_2)))) (ji29)) a2) t235 _ A32.out).mono ?_); rintro e w' ⟨rfl, ⟨nd, rfl⟩⟩; refine ⟨_, rfl, ?_⟩) | ((with_reducible refine gate_dst (N := 67) rfl ?_); (try (refine gate_guard (by rfl) ?_; dsimp only)); refine Kd.R_lit (Kd.int .i64) _ 3 ?hg (N := 67) ?hd (xs := ([Int.tmod t234 2, Int.tmod t235 2] : List Int)) (inner := [.int .i64 (Int.tmod t234 2), .int .i64 (Int.tmod t235 2)]) (ok := fun _ => True) (okp := fun _ => True) ?hr ?hp (fun _ hk => hk) trivial (Below.refl _ _) (Nat.le_refl _) (by simp) ?_; (case hd => rfl); (case hg => rfl); (case hr => first | (go_simp; done) | (go_simp; rfl)); (case hp => exact (Reps.one (show Kd.M (Kd.int .i64) _ _ _ (Int.tmod t234 2) [.int .i64 (Int.tmod t234 2)] from rfl) (Reps.one (show Kd.M (Kd.int .i64) _ _ _ (Int.tmod t235 2) [.int .i64 (Int.tmod t235 2)] from rfl) (Reps.none _ _)))); intro v237 w34 ho35 hb hg_ hnew_; clear hg_ hnew_; (first | rw [← Ny236.out] at ho35 | (simp only [Int.reduceToNat] at ho35; rw [← Ny236.out] at ho35)); have n0_ := Aside0.mk (Kd.R_elder' (by (with_reducible repeat (first | apply zRa | apply zRn | apply zRd)); first | exact HO_10.out | (subst_vars; exact HO_10.out)) (Kd.R_base ho35) hb); have n1_ := Aside0.mk (Kd.R_lower (Kd.R_new' ho35 (Kd.R_lt (by (with_reducible repeat (first | apply zRa | apply zRn | apply zRd)); first | exact HO_10.out | (subst_vars; exact HO_10.out)))) (below_size (by repeat (first | (with_reducible first | exact HB.out | apply zBa | apply zBn | apply zBd) | exact HB.out)))); have n2_ := Aside0.mk (below_step (by repeat (first | (with_reducible first | exact HB.out | apply zBa | apply zBn | apply zBd) | exact HB.out)) hb); clear HO_10; clear HB; have HO_10 := n0_; have HO238 := n1_; have HB := n2_; clear n0_ n1_ n2_; clear hb ho35; obtain ⟨Ao37, co37, eo37⟩ := Kd.R_slice HO238.out; subst eo37) | ((with_reducible refine gate_builtin (b := .append) (xs := #[.tmp 56, .tmp 67]) rfl ?_); (try (refine gate_guard (by rfl) ?_; dsimp only)); at_builtin; refine Kd.R_append_rows (Kd.int .i64) (w0 := w) w.heap.size rfl (.tmp 56) (.tmp 67) 24 3 (.int .i64 0) 8 rfl Try.underlying24 info3 rfl (by decide) (by omega) u10 x10_2 y236 _ _ _ (fun k_ => some k_ ≠ (.slice Ao37 y236.length co37 : Value).ownBlock) (fun _ => False) rfl rfl ?aO ?aR (fun _ _ h => h) (fun _ h => h.elim) ?aF ?aB ?aS ?aL ?_; (case aR => repeat (first | exact (Kd.R_reads' HO238.out).2.2 | (with_reducible first | refine zCa ?_ _ | refine zCn ?_ _ | refine zCd ?_))); (case aB => exact (by repeat (first | (with_reducible first | exact HB.out | apply zBa | apply zBn | apply zBd) | exact HB.out))); (case aF => exact (fun k_ hk => Kd.fresh' (Kd.R_lt (by (with_reducible repeat (first | apply zRa | apply zRn | apply zRd)); first | exact HO238.out | (subst_vars; exact HO238.out))) k_ hk)); (case aO => exact (by (with_reducible repeat (first | apply zRa | apply zRn | apply zRd)); first | exact Kd.R_mono HO_10.out (fun _ hk => hk.2) | (subst_vars; exact Kd.R_mono HO_10.out (fun _ hk => hk.2)))); (case aS => exact (below_size (by repeat (first | (with_reducible first | exact HB.out | apply zBa | apply zBn | apply zBd) | exact HB.out)))); (case aL => have := LMc33.out; omega); intro v240 w36 ho hb hg hat; (first | rw [← Ny239.out] at ho | (simp only [Int.reduceToNat] at ho; rw [← Ny239.out] at ho)); have n0_ := Aside0.mk (Kd.R_after (ok := (fun _ => True)) (by (with_reducible repeat (first | apply zRa | apply zRn | apply zRd)); first | exact HO238.out | (subst_vars; exact HO238.out)) hg hat); have n1_ := Aside0.mk (hb); have n2_ := Aside0.mk (ho); clear HO238; clear HB; clear HO_10; have HO238 := n0_; have HB := n1_; have HO241 := n2_; clear n0_ n1_ n2_; clear ho hb hg hat))
      go_roundg k2
      case measure => have := HJ4.out; have := HK2.out; omega
      case rel => exact ⟨(y239), (Int.tmod (wrap64 ((wrap64 (2 * x11_2)))) (ji29)), (wrap64 (x12_2 + 1)), (by first | rfl | (simp; done) | (simp only [← hji29] <;> (first | rfl | simp)) | (simp [*]; done)), (by first | rfl | (simp; done) | (simp [*]; done)), H', ⟨by have := HJ4.out; have := HK2.out; omega⟩, ⟨by (with_reducible repeat (first | apply zRa | apply zRn | apply zRd)); first | exact Kd.R_mono HO241.out (fun _ hk => trivial) | (subst_vars; exact Kd.R_mono HO241.out (fun _ hk => trivial))⟩, ⟨by repeat (first | (with_reducible first | exact HB.out | apply zBa | apply zBn | apply zBd) | exact HB.out)⟩⟩
     rw [if_pos c14] at H
     have c14b0 : decide (x12_2 < (l3.length : Int)) = true := zE c14
     clear c14
     by_cases c15 : 0 ≤ x12_2
     case neg =>
      rw [if_neg c15] at H
      exact absurd H (by simp)
     rw [if_pos c15] at H
     have c15b0 : decide (0 ≤ x12_2) = true := zE c15
     clear c15
     obtain ⟨ji16, hji16⟩ : ∃ j_ : Int, (IntKind.u64.wrap (wrap64 (a0 + 1))) = j_ := ⟨_, rfl⟩
     replace H : (if 0 ≤ (ji16) then (if (shl .i64 1 (ji16)) = 0 then (none) else ((spec_l14Ones.f k2 (Go.bits .and .i64 (Int.tmod (wrap64 ((wrap64 (2 * x11_2)) + (rd l3 x12_2))) (shl .i64 1 (ji16))) a1)).bind fun t226 => ((spec_l14Ones.f k2 (Go.bits .and .i64 (Int.tmod (wrap64 ((wrap64 (2 * x11_2)) + (rd l3 x12_2))) (shl .i64 1 (ji16))) a2)).bind fun t227 => ((some (([Int.tmod t226 2, Int.tmod t227 2] : List Int) : List Int)).bind fun y228 => (if x10_2.length + y228.length < 17592186044416 then (spec_Spread.l0 k2 a0 a1 a2 l3 (x10_2 ++ y228) (Int.tmod (wrap64 ((wrap64 (2 * x11_2)) + (rd l3 x12_2))) (shl .i64 1 (ji16))) (wrap64 (x12_2 + 1))) else (none)))))) else (none)) = some (r1, r2) := by first | (rw [hji16] at H; exact H) | (simp only [hji16] at H ⊢; exact H)
     by_cases c17 : 0 ≤ (ji16)
     case neg =>
      rw [if_neg c17] at H
      exact absurd H (by simp)
     rw [if_pos c17] at H
     have c17b0 := eq_true c17
     have c17b1 : decide (0 ≤ (ji16)) = true := zE c17
     clear c17
     obtain ⟨ji18, hji18⟩ : ∃ j_ : Int, (shl .i64 1 (ji16)) = j_ := ⟨_, rfl⟩
     replace H : (if (ji18) = 0 then (none) else ((spec_l14Ones.f k2 (Go.bits .and .i64 (Int.tmod (wrap64 ((wrap64 (2 * x11_2)) + (rd l3 x12_2))) (ji18)) a1)).bind fun t226 => ((spec_l14Ones.f k2 (Go.bits .and .i64 (Int.tmod (wrap64 ((wrap64 (2 * x11_2)) + (rd l3 x12_2))) (ji18)) a2)).bind fun t227 => ((some (([Int.tmod t226 2, Int.tmod t227 2] : List Int) : List Int)).bind fun y228 => (if x10_2.length + y228.length < 17592186044416 then (spec_Spread.l0 k2 a0 a1 a2 l3 (x10_2 ++ y228) (Int.tmod (wrap64 ((wrap64 (2 * x11_2)) + (rd l3 x12_2))) (ji18)) (wrap64 (x12_2 + 1))) else (none)))))) = some (r1, r2) := by first | (rw [hji18] at H; exact H) | (simp only [hji18] at H ⊢; exact H)
     have hji18_ : (IntKind.i64.wrap (1 * 2 ^ min (ji16).toNat 64)) = ji18 := hji18
     have hji18z : (ji16) ≤ 64 → (IntKind.i64.wrap (1 * 2 ^ (ji16).toNat)) = ji18 := shl_small hji18
     have hji18u : (IntKind.i64.wrap (2 ^ min (ji16).toNat 64)) = ji18 := by have h_ := hji18_; rw [Int.one_mul] at h_; exact h_
     have hji18v : (ji16) ≤ 64 → (IntKind.i64.wrap (2 ^ (ji16).toNat)) = ji18 := fun hle_ => by have h_ := hji18z hle_; rw [Int.one_mul] at h_; exact h_
     have hji18y : (wrap64 (1 * 2 ^ min (ji16).toNat 64)) = ji18 := (i64_w _).symm.trans hji18_
     have hji18x : (ji16) ≤ 64 → (wrap64 (1 * 2 ^ (ji16).toNat)) = ji18 := fun h_ => (i64_w _).symm.trans (hji18z h_)
     by_cases c19 : (ji18) = 0
     case pos =>
      rw [if_pos c19] at H
      exact absurd H (by simp)
     rw [if_neg c19] at H
     have c19b0 : ((ji18) == 0) = false := beq_eq_false_iff_ne.mpr c19
     have c19b1 : ((ji18) != 0) = true := bne_iff_ne.mpr c19
     replace H := Option.bind_eq_some_iff.mp H
     obtain ⟨t226, A200, H⟩ := H
     replace H : ((spec_l14Ones.f k2 (Go.bits .and .i64 (Int.tmod (wrap64 ((wrap64 (2 * x11_2)) + (rd l3 x12_2))) (ji18)) a2)).bind fun t227 => ((some (([Int.tmod t226 2, Int.tmod t227 2] : List Int) : List Int)).bind fun y228 => (if x10_2.length + y228.length < 17592186044416 then (spec_Spread.l0 k2 a0 a1 a2 l3 (x10_2 ++ y228) (Int.tmod (wrap64 ((wrap64 (2 * x11_2)) + (rd l3 x12_2))) (ji18)) (wrap64 (x12_2 + 1))) else (none)))) = some (r1, r2) := H
     have A20 := Aside0.mk A200
     clear A200
     replace H := Option.bind_eq_some_iff.mp H
     obtain ⟨t227, A210, H⟩ := H
     replace H : ((some (([Int.tmod t226 2, Int.tmod t227 2] : List Int) : List Int)).bind fun y228 => (if x10_2.length + y228.length < 17592186044416 then (spec_Spread.l0 k2 a0 a1 a2 l3 (x10_2 ++ y228) (Int.tmod (wrap64 ((wrap64 (2 * x11_2)) + (rd l3 x12_2))) (ji18)) (wrap64 (x12_2 + 1))) else (none))) = some (r1, r2) := H
     have A21 := Aside0.mk A210
     clear A210
     obtain ⟨y228, hy228⟩ : ∃ y_ : List Int, y_ = (([Int.tmod t226 2, Int.tmod t227 2] : List Int)) := ⟨_, rfl⟩
     replace H : (if x10_2.length + y228.length < 17592186044416 then (spec_Spread.l0 k2 a0 a1 a2 l3 (x10_2 ++ y228) (Int.tmod (wrap64 ((wrap64 (2 * x11_2)) + (rd l3 x12_2))) (ji18)) (wrap64 (x12_2 + 1))) else (none)) = some (r1, r2) := by first | (rw [hy228]; with_reducible exact H) | (have H2_ := (Option.bind_some _ _).symm.trans H; rw [hy228]; with_reducible exact H2_) | (have H2_ := (Option.bind_some _ _).symm.trans H; with_reducible exact H2_) | with_reducible exact H | (rw [hy228]; exact H) | exact H
     have Ny228 := Aside0.mk hy228
     clear hy228
     by_cases c22 : x10_2.length + y228.length < 17592186044416
     case neg =>
      rw [if_neg c22] at H
      exact absurd H (by simp)
     rw [if_pos c22] at H
     have LMc22 := Aside0.mk c22
     clear c22
     obtain ⟨y231, hy231⟩ : ∃ y_ : List Int, y_ = (x10_2 ++ y228) := ⟨_, rfl⟩
     replace H : (spec_Spread.l0 k2 a0 a1 a2 l3 y231 (Int.tmod (wrap64 ((wrap64 (2 * x11_2)) + (rd l3 x12_2))) (ji18)) (wrap64 (x12_2 + 1))) = some (r1, r2) := by first | (rw [hy231]; with_reducible exact H) | (have H2_ := (Option.bind_some _ _).symm.trans H; rw [hy231]; with_reducible exact H2_) | (have H2_ := (Option.bind_some _ _).symm.trans H; with_reducible exact H2_) | with_reducible exact H | (rw [hy231]; exact H) | exact H
     have Ny231 := Aside0.mk hy231
     clear hy231
     have H' := Aside0.mk H
     clear H
     have p225 : 0 ≤ (x12_2 : Int) := zT (by first | (with_reducible assumption) | assumption)
     have q225 : x12_2 < (l3.length : Int) := zT (by first | (with_reducible assumption) | assumption)
     obtain ⟨ad225, e225, hx225_0⟩ := Kd.at_int HR3.out x12_2 p225 q225
     cases e225
     replace hx225_0 := (HB.out.cell (zW w _ hx225_0)).trans hx225_0
     replace p225 := eq_true p225
     replace q225 := eq_true q225
     go_wp2_with (first | ((with_reducible refine gate_callee (f := 41) rfl ?_); refine goesL_ (some 60) rfl rfl Try.func41 (by kernel_rfl) rfl #[.int .i64 (Go.bits .and .i64 (Int.tmod (wrap64 ((wrap64 (2 * x11_2)) + (rd l3 x12_2))) (ji18)) a1)] rfl (by (try simp only [List.map_toArray, List.map_cons, List.map_nil]); first | done | (simp only [hji18]; rfl) | rfl | (simp only [List.length_drop, List.length_take]; rfl)) ?_; (with_reducible refine (spec_l14Ones.calls k2 (Go.bits .and .i64 (Int.tmod (wrap64 ((wrap64 (2 * x11_2)) + (rd l3 x12_2))) (ji18)) a1) t226 _ A20.out).mono ?_); rintro e w' ⟨rfl, ⟨nd, rfl⟩⟩; refine ⟨_, rfl, ?_⟩) | ((with_reducible refine gate_callee (f := 41) rfl ?_); refine goesL_ (some 65) rfl rfl Try.func41 (by kernel_rfl) rfl #[.int .i64 (Go.bits .and .i64 (Int.tmod (wrap64 ((wrap64 (2 * x11_2)) + (rd l3 x12_2))) (ji18)) a2)] rfl (by (try simp only [List.map_toArray, List.map_cons, List.map_nil]); first | done | (simp only [hji18]; rfl) | rfl | (simp only [List.length_drop, List.length_take]; rfl)) ?_; (with_reducible refine (spec_l14Ones.calls k2 (Go.bits .and .i64 (Int.tmod (wrap64 ((wrap64 (2 * x11_2)) + (rd l3 x12_2))) (ji18)) a2) t227 _ A21.out).mono ?_); rintro e w' ⟨rfl, ⟨nd, rfl⟩⟩; refine ⟨_, rfl, ?_⟩) | ((with_reducible refine gate_dst (N := 67) rfl ?_); (try (refine gate_guard (by rfl) ?_; dsimp only)); refine Kd.R_lit (Kd.int .i64) _ 3 ?hg (N := 67) ?hd (xs := ([Int.tmod t226 2, Int.tmod t227 2] : List Int)) (inner := [.int .i64 (Int.tmod t226 2), .int .i64 (Int.tmod t227 2)]) (ok := fun _ => True) (okp := fun _ => True) ?hr ?hp (fun _ hk => hk) trivial (Below.refl _ _) (Nat.le_refl _) (by simp) ?_; (case hd => rfl); (case hg => rfl); (case hr => first | (go_simp; done) | (go_simp; rfl)); (case hp => exact (Reps.one (show Kd.M (Kd.int .i64) _ _ _ (Int.tmod t226 2) [.int .i64 (Int.tmod t226 2)] from rfl) (Reps.one (show Kd.M (Kd.int .i64) _ _ _ (Int.tmod t227 2) [.int .i64 (Int.tmod t227 2)] from rfl) (Reps.none _ _)))); intro v229 w23 ho24 hb hg_ hnew_; clear hg_ hnew_; (first | rw [← Ny228.out] at ho24 | (simp only [Int.reduceToNat] at ho24; rw [← Ny228.out] at ho24)); have n0_ := Aside0.mk (Kd.R_elder' (by (with_reducible repeat (first | apply zRa | apply zRn | apply zRd)); first | exact HO_10.out | (subst_vars; exact HO_10.out)) (Kd.R_base ho24) hb); have n1_ := Aside0.mk (Kd.R_lower (Kd.R_new' ho24 (Kd.R_lt (by (with_reducible repeat (first | apply zRa | apply zRn | apply zRd)); first | exact HO_10.out | (subst_vars; exact HO_10.out)))) (below_size (by repeat (first | (with_reducible first | exact HB.out | apply zBa | apply zBn | apply zBd) | exact HB.out)))); have n2_ := Aside0.mk (below_step (by repeat (first | (with_reducible first | exact HB.out | apply zBa | apply zBn | apply zBd) | exact HB.out)) hb); clear HO_10; clear HB; have HO_10 := n0_; have HO230 := n1_; have HB := n2_; clear n0_ n1_ n2_; clear hb ho24; obtain ⟨Ao26, co26, eo26⟩ := Kd.R_slice HO230.out; subst eo26) | ((with_reducible refine gate_builtin (b := .append) (xs := #[.tmp 56, .tmp 67]) rfl ?_); (try (refine gate_guard (by rfl) ?_; dsimp only)); at_builtin; refine Kd.R_append_rows (Kd.int .i64) (w0 := w) w.heap.size rfl (.tmp 56) (.tmp 67) 24 3 (.int .i64 0) 8 rfl Try.underlying24 info3 rfl (by decide) (by omega) u10 x10_2 y228 _ _ _ (fun k_ => some k_ ≠ (.slice Ao26 y228.length co26 : Value).ownBlock) (fun _ => False) rfl rfl ?aO ?aR (fun _ _ h => h) (fun _ h => h.elim) ?aF ?aB ?aS ?aL ?_; (case aR => repeat (first | exact (Kd.R_reads' HO230.out).2.2 | (with_reducible first | refine zCa ?_ _ | refine zCn ?_ _ | refine zCd ?_))); (case aB => exact (by repeat (first | (with_reducible first | exact HB.out | apply zBa | apply zBn | apply zBd) | exact HB.out))); (case aF => exact (fun k_ hk => Kd.fresh' (Kd.R_lt (by (with_reducible repeat (first | apply zRa | apply zRn | apply zRd)); first | exact HO230.out | (subst_vars; exact HO230.out))) k_ hk)); (case aO => exact (by (with_reducible repeat (first | apply zRa | apply zRn | apply zRd)); first | exact Kd.R_mono HO_10.out (fun _ hk => hk.2) | (subst_vars; exact Kd.R_mono HO_10.out (fun _ hk => hk.2)))); (case aS => exact (below_size (by repeat (first | (with_reducible first | exact HB.out | apply zBa | apply zBn | apply zBd) | exact HB.out)))); (case aL => have := LMc22.out; omega); intro v232 w25 ho hb hg hat; (first | rw [← Ny231.out] at ho | (simp only [Int.reduceToNat] at ho; rw [← Ny231.out] at ho)); have n0_ := Aside0.mk (Kd.R_after (ok := (fun _ => True)) (by (with_reducible repeat (first | apply zRa | apply zRn | apply zRd)); first | exact HO230.out | (subst_vars; exact HO230.out)) hg hat); have n1_ := Aside0.mk (hb); have n2_ := Aside0.mk (ho); clear HO230; clear HB; clear HO_10; have HO230 := n0_; have HB := n1_; have HO233 := n2_; clear n0_ n1_ n2_; clear ho hb hg hat))
     go_roundg k2
     case measure => have := HJ4.out; have := HK2.out; omega
     case rel => exact ⟨(y231), (Int.tmod (wrap64 ((wrap64 (2 * x11_2)) + (rd l3 x12_2))) (ji18)), (wrap64 (x12_2 + 1)), (by first | rfl | (simp; done) | (simp only [← hji18] <;> (first | rfl | simp)) | (simp [*]; done)), (by first | rfl | (simp; done) | (simp [*]; done)), H', ⟨by have := HJ4.out; have := HK2.out; omega⟩, ⟨by (with_reducible repeat (first | apply zRa | apply zRn | apply zRd)); first | exact Kd.R_mono HO233.out (fun _ hk => trivial) | (subst_vars; exact Kd.R_mono HO233.out (fun _ hk => trivial))⟩, ⟨by repeat (first | (with_reducible first | exact HB.out | apply zBa | apply zBn | apply zBd) | exact HB.out)⟩⟩

/-! ### spec_Soften: function 35 -/
mutual
def spec_Soften.j0 : Nat → List Int → Int → List Int → Bool → Option (List Int × Bool)
 | 0, _, _, _, _ => none
 | k + 1, x0, x1, x6, x16 => if x16 = true then (some (x6, false)) else (spec_Soften.l0 k x0 x1 x6 0)
def spec_Soften.l0 : Nat → List Int → Int → List Int → Int → Option (List Int × Bool)
 | 0, _, _, _, _ => none
 | k + 1, x0, x1, x6, x7 => if x7 < (x0.length : Int) then (if 0 ≤ x7 then (if x6.length < 17592186044416 then (spec_Soften.l0 k x0 x1 (x6 ++ [wrap64 (x1 * (wrap64 ((wrap64 (2 * (rd x0 x7))) - 1)))]) (wrap64 (x7 + 1))) else (none)) else (none)) else (some (x6, true))
end
def spec_Soften.f (k : Nat) (l0 : List Int) (a1 : Int) : Option (List Int × Bool) := (some (([] : List Int) : List Int)).bind fun y242 => ((spec_BitsOk.f k l0).bind fun t245 => (if t245 = true then ((spec_l1In.f a1 0 100).bind fun t246 => (spec_Soften.j0 k l0 a1 y242 (!t246))) else (spec_Soften.j0 k l0 a1 y242 true)))
theorem spec_Soften.mono_l : ∀ k, (∀ y0 y1 y2 y3, LeO (spec_Soften.j0 k y0 y1 y2 y3) (spec_Soften.j0 (k + 1) y0 y1 y2 y3)) ∧ (∀ y0 y1 y2 y3, LeO (spec_Soften.l0 k y0 y1 y2 y3) (spec_Soften.l0 (k + 1) y0 y1 y2 y3))
 | 0 => ⟨fun _ _ _ _ r h => by simp [spec_Soften.j0] at h, fun _ _ _ _ r h => by simp [spec_Soften.l0] at h⟩
 | k + 1 => by
  obtain ⟨ih0, ih1⟩ := spec_Soften.mono_l k
  refine ⟨?_, ?_⟩
  ·intro y0 y1 y2 y3
   unfold spec_Soften.j0
   repeat' first
   | (with_reducible exact ih0 _ _ _ _)
   | (with_reducible exact ih1 _ _ _ _)
   | (with_reducible exact spec_BitsOk.mono _ _)
   | (with_reducible exact LeO.refl _)
   | (with_reducible exact LeO.none _)
   | (with_reducible refine LeO.ite ?_ ?_)
   | (with_reducible refine LeO.bind ?_ (fun _ => ?_))
   | exact ih0 _ _ _ _
   | exact ih1 _ _ _ _
   | exact spec_BitsOk.mono _ _
   | exact LeO.none _
   | refine LeO.ite ?_ ?_
   | refine LeO.bind ?_ (fun _ => ?_)
  ·intro y0 y1 y2 y3
   unfold spec_Soften.l0
   repeat' first
   | (with_reducible exact ih0 _ _ _ _)
   | (with_reducible exact ih1 _ _ _ _)
   | (with_reducible exact spec_BitsOk.mono _ _)
   | (with_reducible exact LeO.refl _)
   | (with_reducible exact LeO.none _)
   | (with_reducible refine LeO.ite ?_ ?_)
   | (with_reducible refine LeO.bind ?_ (fun _ => ?_))
   | exact ih0 _ _ _ _
   | exact ih1 _ _ _ _
   | exact spec_BitsOk.mono _ _
   | exact LeO.none _
   | refine LeO.ite ?_ ?_
   | refine LeO.bind ?_ (fun _ => ?_)
theorem spec_Soften.mono : ∀ a0 a1 k, LeO (spec_Soften.f k a0 a1) (spec_Soften.f (k + 1) a0 a1) := by
 intro a0 a1 k
 obtain ⟨ih0, ih1⟩ := spec_Soften.mono_l k
 unfold spec_Soften.f
 repeat' first
  | (with_reducible exact ih0 _ _ _ _)
  | (with_reducible exact ih1 _ _ _ _)
  | (with_reducible exact spec_BitsOk.mono _ _)
  | (with_reducible exact LeO.refl _)
  | (with_reducible exact LeO.none _)
  | (with_reducible refine LeO.ite ?_ ?_)
  | (with_reducible refine LeO.bind ?_ (fun _ => ?_))
  | exact ih0 _ _ _ _
  | exact ih1 _ _ _ _
  | exact spec_BitsOk.mono _ _
  | exact LeO.none _
  | refine LeO.ite ?_ ?_
  | refine LeO.bind ?_ (fun _ => ?_)
set_option maxHeartbeats 8000000 in
set_option maxRecDepth 100000 in
theorem spec_Soften.calls (k : Nat) (A0 : Option Addr) (c0 : Nat) (l0 : List Int) (a1 : Int) (r1 : List Int) (r2 : Bool) (w : World) (hr0 : Kd.C (Kd.int .i64) w A0 l0.length l0) (hc0 : l0.length ≤ c0) (h : spec_Soften.f k l0 a1 = some (r1, r2)) :
 Calls Try.prog 35 #[.slice A0 l0.length c0, .int .i64 a1] w fun e w' => ∃ v0_ : Value, e = .returned (.tuple #[v0_, .bool r2]) ∧ Kd.R (Kd.int .i64) 3 w' w.heap.size (fun _ => True) v0_ r1 ∧ Below w.heap.size w w' := by
 have HR0 := Aside0.mk hr0
 have HC0 := Aside0.mk hc0
 clear hr0 hc0
 have HB := Aside0.mk (Below.refl w.heap.size w)
 have H : ((some (([] : List Int) : List Int)).bind fun y242 => ((spec_BitsOk.f k l0).bind fun t245 => (if t245 = true then ((spec_l1In.f a1 0 100).bind fun t246 => (spec_Soften.j0 k l0 a1 y242 (!t246))) else (spec_Soften.j0 k l0 a1 y242 true)))) = some (r1, r2) := h
 clear h
 obtain ⟨y242, hy242⟩ : ∃ y_ : List Int, y_ = (([] : List Int)) := ⟨_, rfl⟩
 replace H : ((spec_BitsOk.f k l0).bind fun t245 => (if t245 = true then ((spec_l1In.f a1 0 100).bind fun t246 => (spec_Soften.j0 k l0 a1 y242 (!t246))) else (spec_Soften.j0 k l0 a1 y242 true))) = some (r1, r2) := by first | (rw [hy242]; with_reducible exact H) | (have H2_ := (Option.bind_some _ _).symm.trans H; rw [hy242]; with_reducible exact H2_) | (have H2_ := (Option.bind_some _ _).symm.trans H; with_reducible exact H2_) | with_reducible exact H | (rw [hy242]; exact H) | exact H
 have Ny242 := Aside0.mk hy242
 clear hy242
 have HC3 := Aside0.mk H
 clear H
 go_enter Try.func35, Try.ntmps35
 go_upto_region 2 with (first | ((with_reducible refine gate_dst (N := 8) rfl ?_); refine Kd.R_lit (Kd.int .i64) _ 3 ?hg (N := 8) ?hd (xs := ([] : List Int)) (inner := []) (ok := fun _ => True) (okp := fun _ => True) ?hr ?hp (fun _ hk => hk) trivial (Below.refl _ _) (Nat.le_refl _) (by simp) ?_; (case hd => rfl); (case hg => rfl); (case hr => first | (go_simp; done) | (go_simp; rfl)); (case hp => exact (Reps.none _ _)); intro v243 w4 ho5 hb hg_ hnew_; clear hg_ hnew_; (first | rw [← Ny242.out] at ho5 | (simp only [Int.reduceToNat] at ho5; rw [← Ny242.out] at ho5)); have n0_ := Aside0.mk (Kd.R_lower ho5 (below_size (by repeat (first | (with_reducible first | exact HB.out | apply zBa | apply zBn | apply zBd) | exact HB.out)))); have n1_ := Aside0.mk (below_step (by repeat (first | (with_reducible first | exact HB.out | apply zBa | apply zBn | apply zBd) | exact HB.out)) hb); clear HB; have HO244 := n0_; have HB := n1_; clear n0_ n1_; clear hb ho5))
 (try simp only [Act.put, List.setIfInBounds_toArray, List.set_cons_zero, List.set_cons_succ])
 go_cut [16] (fun v16 wc => ∃ (kq : Nat) (x16_2 : Bool), v16 = .bool x16_2 ∧ Aside0 (spec_Soften.j0 kq l0 a1 y242 x16_2 = some (r1, r2)) ∧ Aside0 (kq ≤ k) ∧ Aside0 (Kd.R (Kd.int .i64) 3 wc w.heap.size (fun _ => True) v243 y242) ∧ Aside0 (Below w.heap.size w wc))
 case first =>
  have H := HC3.out
  clear HC3
  replace H := Option.bind_eq_some_iff.mp H
  obtain ⟨t245, A60, H⟩ := H
  replace H : (if t245 = true then ((spec_l1In.f a1 0 100).bind fun t246 => (spec_Soften.j0 k l0 a1 y242 (!t246))) else (spec_Soften.j0 k l0 a1 y242 true)) = some (r1, r2) := H
  have A6 := Aside0.mk A60
  clear A60
  by_cases c7 : t245 = true
  case neg =>
   replace c7 := Bool.eq_false_iff.mpr c7
   subst c7
   have H1 : (spec_Soften.j0 k l0 a1 y242 true) = some (r1, r2) := by rw [if_neg (show ¬ (false = true) by decide)] at H; exact H
   clear H
   have H := H1
   clear H1
   have H' := Aside0.mk H
   clear H
   go_wp2_with (first | ((with_reducible refine gate_callee (f := 43) rfl ?_); refine goesL_ (some 10) rfl rfl Try.func43 (by kernel_rfl) rfl #[.slice A0 l0.length c0] rfl (by (try simp only [List.map_toArray, List.map_cons, List.map_nil]); first | done | rfl | (simp only [List.length_drop, List.length_take]; rfl)) ?_; (with_reducible refine (spec_BitsOk.calls k _ _ l0 false _ ?side1 ?side2 A6.out).mono ?_); (case side1 => repeat (first | exact (Kd.C_below HR0.out HB.out) | (with_reducible first | refine zCa ?_ _ | refine zCn ?_ _ | refine zCd ?_))); (case side2 => exact HC0.out); rintro e w' ⟨rfl, ⟨nd, rfl⟩⟩; refine ⟨_, rfl, ?_⟩))
   go_meet
   case rel => exact ⟨_, (true), (by first | rfl | (simp; done) | (simp [*]; done)), H', ⟨by first | omega | exact Nat.le_refl _⟩, ⟨by (with_reducible repeat (first | apply zRa | apply zRn | apply zRd)); first | exact HO244.out | (subst_vars; exact HO244.out)⟩, ⟨by repeat (first | (with_reducible first | exact HB.out | apply zBa | apply zBn | apply zBd) | exact HB.out)⟩⟩
  subst c7
  have H1 : ((spec_l1In.f a1 0 100).bind fun t246 => (spec_Soften.j0 k l0 a1 y242 (!t246))) = some (r1, r2) := by rw [if_pos rfl] at H; exact H
  clear H
  have H := H1
  clear H1
  replace H := Option.bind_eq_some_iff.mp H
  obtain ⟨t246, A80, H⟩ := H
  replace H : (spec_Soften.j0 k l0 a1 y242 (!t246)) = some (r1, r2) := H
  have A8 := Aside0.mk A80
  clear A80
  have H' := Aside0.mk H
  clear H
  go_wp2_with (first | ((with_reducible refine gate_callee (f := 43) rfl ?_); refine goesL_ (some 10) rfl rfl Try.func43 (by kernel_rfl) rfl #[.slice A0 l0.length c0] rfl (by (try simp only [List.map_toArray, List.map_cons, List.map_nil]); first | done | rfl | (simp only [List.length_drop, List.length_take]; rfl)) ?_; (with_reducible refine (spec_BitsOk.calls k _ _ l0 true _ ?side1 ?side2 A6.out).mono ?_); (case side1 => repeat (first | exact (Kd.C_below HR0.out HB.out) | (with_reducible first | refine zCa ?_ _ | refine zCn ?_ _ | refine zCd ?_))); (case side2 => exact HC0.out); rintro e w' ⟨rfl, ⟨nd, rfl⟩⟩; refine ⟨_, rfl, ?_⟩) | (go_at_call 29; (with_reducible refine (spec_l1In.calls a1 0 100 t246 _ A8.out).mono ?_); rintro e w' ⟨rfl, ⟨nd, rfl⟩⟩))
  go_meet
  case rel => exact ⟨_, (!t246), (by first | rfl | (simp; done) | (simp [*]; done)), H', ⟨by first | omega | exact Nat.le_refl _⟩, ⟨by (with_reducible repeat (first | apply zRa | apply zRn | apply zRd)); first | exact HO244.out | (subst_vars; exact HO244.out)⟩, ⟨by repeat (first | (with_reducible first | exact HB.out | apply zBa | apply zBn | apply zBd) | exact HB.out)⟩⟩
 case rest =>
  clear HC3
  try clear p2
  try clear c3
  try clear c4
  try clear c7
  obtain ⟨kq, x16_2, rfl, HA, HJ2, HO_6, HB⟩ := hcut
  cases kq with
  | zero => exact absurd HA.out (by simp [spec_Soften.j0])
  | succ kj2 =>
   have H := HA.out
   clear HA
   simp only [spec_Soften.j0] at H
   by_cases c9 : x16_2 = true
   case pos =>
    subst c9
    have H1 : (some (y242, false)) = some (r1, r2) := by rw [if_pos rfl] at H; exact H
    clear H
    have H := H1
    clear H1
    simp only [Option.some.injEq, Prod.mk.injEq] at H
    obtain ⟨rfl, rfl⟩ := H
    go_wp2
    go_ret2
    exact ⟨_, by first | rfl | (simp [errW_none, errW_some] <;> rfl) | (simp [*, errW_none, errW_some] <;> rfl), by (with_reducible repeat (first | apply zRa | apply zRn | apply zRd)); first | exact HO_6.out | (subst_vars; exact HO_6.out), by repeat (first | (with_reducible first | exact HB.out | apply zBa | apply zBn | apply zBd) | exact HB.out)⟩
   replace c9 := Bool.eq_false_iff.mpr c9
   subst c9
   have H1 : (spec_Soften.l0 kj2 l0 a1 y242 0) = some (r1, r2) := by rw [if_neg (show ¬ (false = true) by decide)] at H; exact H
   clear H
   have H := H1
   clear H1
   have H' := Aside0.mk H
   clear H
   go_wp2
   (try simp only [Act.put, List.setIfInBounds_toArray, List.set_cons_zero, List.set_cons_succ])
   go_loopg [6, 7] kj2 (fun kq v6 v7 w' => ∃ (x6_2 : List Int) (x7_2 : Int), v7 = .int .i64 x7_2 ∧ Aside0 (spec_Soften.l0 kq l0 a1 x6_2 x7_2 = some (r1, r2)) ∧ Aside0 (kq ≤ kj2) ∧ Aside0 (Kd.R (Kd.int .i64) 3 w' w.heap.size (fun _ => True) v6 x6_2) ∧ Aside0 (Below w.heap.size w w'))
   case atStart => exact ⟨(y242), (0), (by first | rfl | (simp; done) | (simp [*]; done)), H', ⟨Nat.le_refl _⟩, ⟨by (with_reducible repeat (first | apply zRa | apply zRn | apply zRd)); first | exact HO_6.out | (subst_vars; exact HO_6.out)⟩, ⟨by repeat (first | (with_reducible first | exact HB.out | apply zBa | apply zBn | apply zBd) | exact HB.out)⟩⟩
   case round =>
    clear H'
    try clear p2
    try clear c3
    try clear c4
    try clear c7
    try clear c9
    try clear p2
    obtain ⟨x6_2, x7_2, rfl, HA, HK2, HO_6, HB⟩ := hrel
    cases gk with
    | zero => exact absurd HA.out (by simp [spec_Soften.l0])
    | succ k2 =>
     have H := HA.out
     clear HA
     simp only [spec_Soften.l0] at H
     by_cases c10 : x7_2 < (l0.length : Int)
     case neg =>
      rw [if_neg c10] at H
      have c10b0 : decide (x7_2 < (l0.length : Int)) = false := decide_eq_false c10
      clear c10
      simp only [Option.some.injEq, Prod.mk.injEq] at H
      obtain ⟨rfl, rfl⟩ := H
      go_wp2
      go_ret2
      exact ⟨_, by first | rfl | (simp [errW_none, errW_some] <;> rfl) | (simp [*, errW_none, errW_some] <;> rfl), by (with_reducible repeat (first | apply zRa | apply zRn | apply zRd)); first | exact HO_6.out | (subst_vars; exact HO_6.out), by repeat (first | (with_reducible first | exact HB.out | apply zBa | apply zBn | apply zBd) | exact HB.out)⟩
     rw [if_pos c10] at H
     have c10b0 : decide (x7_2 < (l0.length : Int)) = true := zE c10
     clear c10
     by_cases c11 : 0 ≤ x7_2
     case neg =>
      rw [if_neg c11] at H
      exact absurd H (by simp)
     rw [if_pos c11] at H
     have c11b0 : decide (0 ≤ x7_2) = true := zE c11
     clear c11
     by_cases c12 : x6_2.length < 17592186044416
     case neg =>
      rw [if_neg c12] at H
      exact absurd H (by simp)
     rw [if_pos c12] at H
     have LMc12 := Aside0.mk c12
     clear c12
     obtain ⟨y248, hy248⟩ : ∃ y_ : List Int, y_ = (x6_2 ++ [wrap64 (a1 * (wrap64 ((wrap64 (2 * (rd l0 x7_2))) - 1)))]) := ⟨_, rfl⟩
     replace H : (spec_Soften.l0 k2 l0 a1 y248 (wrap64 (x7_2 + 1))) = some (r1, r2) := by first | (rw [hy248]; with_reducible exact H) | (have H2_ := (Option.bind_some _ _).symm.trans H; rw [hy248]; with_reducible exact H2_) | (have H2_ := (Option.bind_some _ _).symm.trans H; with_reducible exact H2_) | with_reducible exact H | (rw [hy248]; exact H) | exact H
     have Ny248 := Aside0.mk hy248
     clear hy248
     have H' := Aside0.mk H
     clear H
     have p247 : 0 ≤ (x7_2 : Int) := zT (by first | (with_reducible assumption) | assumption)
     have q247 : x7_2 < (l0.length : Int) := zT (by first | (with_reducible assumption) | assumption)
     obtain ⟨ad247, e247, hx247_0⟩ := Kd.at_int HR0.out x7_2 p247 q247
     cases e247
     replace hx247_0 := (HB.out.cell (zW w _ hx247_0)).trans hx247_0
     replace p247 := eq_true p247
     replace q247 := eq_true q247
     go_wp2_with (first | ((with_reducible refine gate_builtin (b := .append) (xs := #[.tmp 24, .tmp 33]) rfl ?_); at_builtin; refine Kd.R_append (Kd.int .i64) (w0 := w) w.heap.size rfl (.tmp 24) (.tmp 33) 24 3 (.int .i64 0) 8 rfl Try.underlying24 info3 rfl (by decide) (by omega) u6 x6_2 (wrap64 (a1 * (wrap64 ((wrap64 (2 * (rd l0 x7_2))) - 1)))) [.int .i64 (wrap64 (a1 * (wrap64 ((wrap64 (2 * (rd l0 x7_2))) - 1))))] (fun _ => True) (fun _ => False) rfl rfl ?aP (fun _ hk => hk.elim) ?aF ?aO ?aB ?aS ?aL ?_; (case aP => exact rfl); (case aB => exact (by repeat (first | (with_reducible first | exact HB.out | apply zBa | apply zBn | apply zBd) | exact HB.out))); (case aF => exact (fun _ _ => trivial)); (case aO => exact (by (with_reducible repeat (first | apply zRa | apply zRn | apply zRd)); first | exact HO_6.out | (subst_vars; exact HO_6.out))); (case aS => exact (below_size (by repeat (first | (with_reducible first | exact HB.out | apply zBa | apply zBn | apply zBd) | exact HB.out)))); (case aL => have := LMc12.out; omega); intro v249 w13 ho hb hg hat; (first | rw [← Ny248.out] at ho | (simp only [Int.reduceToNat] at ho; rw [← Ny248.out] at ho)); have n0_ := Aside0.mk (hb); have n1_ := Aside0.mk (ho); clear HB; clear HO_6; have HB := n0_; have HO250 := n1_; clear n0_ n1_; clear ho hb hg hat))
     go_roundg k2
     case measure => have := HJ2.out; have := HK2.out; omega
     case rel => exact ⟨(y248), (wrap64 (x7_2 + 1)), (by first | rfl | (simp; done) | (simp [*]; done)), H', ⟨by have := HJ2.out; have := HK2.out; omega⟩, ⟨by (with_reducible repeat (first | apply zRa | apply zRn | apply zRd)); first | exact HO250.out | (subst_vars; exact HO250.out)⟩, ⟨by repeat (first | (with_reducible first | exact HB.out | apply zBa | apply zBn | apply zBd) | exact HB.out)⟩⟩

end Go.Proofs.Ytoggbgkpeigfmaa.PFnScored
