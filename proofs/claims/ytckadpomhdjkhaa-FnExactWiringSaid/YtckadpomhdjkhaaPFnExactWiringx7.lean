-- Written by a turned copy of the print (see the notes of this repo): plain functions and their walks. Lean checks it.
import Derived.Test.YtckadpomhdjkhaaPFnExactWiringx0
import Derived.Test.YtckadpomhdjkhaaPFnExactWiringx6
namespace Go.Proofs.Ytckadpomhdjkhaa.PFnExactWiring
open Go.RowKit Go.Proofs.YtckadpomhdjkhaaW.PrintWords Go.Proofs.YtckadpomhdjkhaaW.PrintLast Go.Proofs.YtckadpomhdjkhaaW.PrintMore
attribute [local go_sem] max2_int min2_int max_two min_two max_three min_three max_four min_four   -- for this text's walks alone
set_option linter.unusedVariables false
set_option linter.unusedSimpArgs false

/-! ### spec_Wiring: function 26 -/
mutual
def spec_Wiring.l0 : Nat → List (S80) → Int → List (S94) → List (S97) → Option ((List (S80)) × Bool)
 | 0, _, _, _, _ => none
 | k + 1, x4, x5, x210000, x210001 => if x5 < (x210001.length : Int) then (if 0 ≤ x5 then (if 0 ≤ ((rd_T97 x210001 x5).f0) then (if ((rd_T97 x210001 x5).f0) < (x210000.length : Int) then (if 0 ≤ ((rd_T97 x210001 x5).f1) then (if ((rd_T97 x210001 x5).f1) < (x210000.length : Int) then (if ((rd_T94 x210000 ((rd_T97 x210001 x5).f0)).f1) = 6 then (spec_Wiring.j1 k x4 x5 x210000 x210001 ((rd_T94 x210000 ((rd_T97 x210001 x5).f0)).f0) ((rd_T94 x210000 ((rd_T97 x210001 x5).f0)).f1) ((rd_T94 x210000 ((rd_T97 x210001 x5).f0)).f2) ((rd_T94 x210000 ((rd_T97 x210001 x5).f1)).f0) ((rd_T94 x210000 ((rd_T97 x210001 x5).f1)).f1) ((rd_T94 x210000 ((rd_T97 x210001 x5).f1)).f2) ((rd_T97 x210001 x5).f0) ((rd_T97 x210001 x5).f1) ((rd_T94 x210000 ((rd_T97 x210001 x5).f0)).f2) 1 0) else (spec_Wiring.j1 k x4 x5 x210000 x210001 ((rd_T94 x210000 ((rd_T97 x210001 x5).f0)).f0) ((rd_T94 x210000 ((rd_T97 x210001 x5).f0)).f1) ((rd_T94 x210000 ((rd_T97 x210001 x5).f0)).f2) ((rd_T94 x210000 ((rd_T97 x210001 x5).f1)).f0) ((rd_T94 x210000 ((rd_T97 x210001 x5).f1)).f1) ((rd_T94 x210000 ((rd_T97 x210001 x5).f1)).f2) ((rd_T97 x210001 x5).f0) ((rd_T97 x210001 x5).f1) 1 1 0)) else (none)) else (none)) else (none)) else (none)) else (none)) else (some (x4, true))
def spec_Wiring.j1 : Nat → List (S80) → Int → List (S94) → List (S97) → ByteArray → Int → Int → ByteArray → Int → Int → Int → Int → Int → Int → Int → Option ((List (S80)) × Bool)
 | 0, _, _, _, _, _, _, _, _, _, _, _, _, _, _, _ => none
 | k + 1, x4, x5, x210000, x210001, x219000, x219001, x219002, x220000, x220001, x220002, x223000, x223001, x223002, x223003, x223004 => if x220001 = 7 then (spec_Wiring.j2 k x4 x5 true x210000 x210001 x219000 x219001 x219002 x220000 x220001 x220002 x223000 x223001 x223002 x223003 x223004) else (spec_Wiring.j2 k x4 x5 (x220001 == 8) x210000 x210001 x219000 x219001 x219002 x220000 x220001 x220002 x223000 x223001 x223002 x223003 x223004)
def spec_Wiring.j2 : Nat → List (S80) → Int → Bool → List (S94) → List (S97) → ByteArray → Int → Int → ByteArray → Int → Int → Int → Int → Int → Int → Int → Option ((List (S80)) × Bool)
 | 0, _, _, _, _, _, _, _, _, _, _, _, _, _, _, _, _ => none
 | k + 1, x4, x5, x67, x210000, x210001, x219000, x219001, x219002, x220000, x220001, x220002, x223000, x223001, x223002, x223003, x223004 => if x67 = true then (if x219001 = 5 then (if x4.length < 3518437208883 then (spec_Wiring.l0 k (x4 ++ [(⟨x223000, x223001, x223002, x220002, x219002⟩ : S80)]) (wrap64 (x5 + 1)) x210000 x210001) else (none)) else (if x4.length < 3518437208883 then (spec_Wiring.l0 k (x4 ++ [(⟨x223000, x223001, x223002, x220002, x223004⟩ : S80)]) (wrap64 (x5 + 1)) x210000 x210001) else (none))) else (if x219001 = 5 then (if x4.length < 3518437208883 then (spec_Wiring.l0 k (x4 ++ [(⟨x223000, x223001, x223002, x223003, x219002⟩ : S80)]) (wrap64 (x5 + 1)) x210000 x210001) else (none)) else (if x4.length < 3518437208883 then (spec_Wiring.l0 k (x4 ++ [(⟨x223000, x223001, x223002, x223003, x223004⟩ : S80)]) (wrap64 (x5 + 1)) x210000 x210001) else (none)))
end
def spec_Wiring.f (k : Nat) (l0_0 : List (S94)) (l0_1 : List (S97)) : Option ((List (S80)) × Bool) := (some (([] : List (S80)) : List (S80))).bind fun y210 => ((spec_PlanOk.f k l0_0 l0_1).bind fun t213 => (if t213 = true then (spec_Wiring.l0 k y210 0 l0_0 l0_1) else (some (y210, false))))
theorem spec_Wiring.mono_l : ∀ k, (∀ y0 y1 y2 y3, LeO (spec_Wiring.l0 k y0 y1 y2 y3) (spec_Wiring.l0 (k + 1) y0 y1 y2 y3)) ∧ (∀ y0 y1 y2 y3 y4 y5 y6 y7 y8 y9 y10 y11 y12 y13 y14, LeO (spec_Wiring.j1 k y0 y1 y2 y3 y4 y5 y6 y7 y8 y9 y10 y11 y12 y13 y14) (spec_Wiring.j1 (k + 1) y0 y1 y2 y3 y4 y5 y6 y7 y8 y9 y10 y11 y12 y13 y14)) ∧ (∀ y0 y1 y2 y3 y4 y5 y6 y7 y8 y9 y10 y11 y12 y13 y14 y15, LeO (spec_Wiring.j2 k y0 y1 y2 y3 y4 y5 y6 y7 y8 y9 y10 y11 y12 y13 y14 y15) (spec_Wiring.j2 (k + 1) y0 y1 y2 y3 y4 y5 y6 y7 y8 y9 y10 y11 y12 y13 y14 y15))
 | 0 => ⟨fun _ _ _ _ r h => by simp [spec_Wiring.l0] at h, fun _ _ _ _ _ _ _ _ _ _ _ _ _ _ _ r h => by simp [spec_Wiring.j1] at h, fun _ _ _ _ _ _ _ _ _ _ _ _ _ _ _ _ r h => by simp [spec_Wiring.j2] at h⟩
 | k + 1 => by
  obtain ⟨ih0, ih1, ih2⟩ := spec_Wiring.mono_l k
  refine ⟨?_, ?_, ?_⟩
  ·intro y0 y1 y2 y3
   unfold spec_Wiring.l0
   repeat' first
   | (with_reducible exact ih0 _ _ _ _)
   | (with_reducible exact ih1 _ _ _ _ _ _ _ _ _ _ _ _ _ _ _)
   | (with_reducible exact ih2 _ _ _ _ _ _ _ _ _ _ _ _ _ _ _ _)
   | (with_reducible exact spec_PlanOk.mono _ _ _)
   | (with_reducible exact LeO.refl _)
   | (with_reducible exact LeO.none _)
   | (with_reducible refine LeO.ite ?_ ?_)
   | (with_reducible refine LeO.bind ?_ (fun _ => ?_))
  ·intro y0 y1 y2 y3 y4 y5 y6 y7 y8 y9 y10 y11 y12 y13 y14
   unfold spec_Wiring.j1
   repeat' first
   | (with_reducible exact ih0 _ _ _ _)
   | (with_reducible exact ih1 _ _ _ _ _ _ _ _ _ _ _ _ _ _ _)
   | (with_reducible exact ih2 _ _ _ _ _ _ _ _ _ _ _ _ _ _ _ _)
   | (with_reducible exact spec_PlanOk.mono _ _ _)
   | (with_reducible exact LeO.refl _)
   | (with_reducible exact LeO.none _)
   | (with_reducible refine LeO.ite ?_ ?_)
   | (with_reducible refine LeO.bind ?_ (fun _ => ?_))
  ·intro y0 y1 y2 y3 y4 y5 y6 y7 y8 y9 y10 y11 y12 y13 y14 y15
   unfold spec_Wiring.j2
   repeat' first
   | (with_reducible exact ih0 _ _ _ _)
   | (with_reducible exact ih1 _ _ _ _ _ _ _ _ _ _ _ _ _ _ _)
   | (with_reducible exact ih2 _ _ _ _ _ _ _ _ _ _ _ _ _ _ _ _)
   | (with_reducible exact spec_PlanOk.mono _ _ _)
   | (with_reducible exact LeO.refl _)
   | (with_reducible exact LeO.none _)
   | (with_reducible refine LeO.ite ?_ ?_)
   | (with_reducible refine LeO.bind ?_ (fun _ => ?_))
theorem spec_Wiring.mono : ∀ a0 a1 k, LeO (spec_Wiring.f k a0 a1) (spec_Wiring.f (k + 1) a0 a1) := by
 intro a0 a1 k
 obtain ⟨ih0, ih1, ih2⟩ := spec_Wiring.mono_l k
 unfold spec_Wiring.f
 repeat' first
  | (with_reducible exact ih0 _ _ _ _)
  | (with_reducible exact ih1 _ _ _ _ _ _ _ _ _ _ _ _ _ _ _)
  | (with_reducible exact ih2 _ _ _ _ _ _ _ _ _ _ _ _ _ _ _ _)
  | (with_reducible exact spec_PlanOk.mono _ _ _)
  | (with_reducible exact LeO.refl _)
  | (with_reducible exact LeO.none _)
  | (with_reducible refine LeO.ite ?_ ?_)
  | (with_reducible refine LeO.bind ?_ (fun _ => ?_))
def spec_Wiring.T7 : Bool × List (List Nat × List Nat) := (true, [([], []), ([0], [0]), ([], []), ([2], [2]), ([], []), ([3, 4], [3, 4]), ([5], [5]), ([6], [6]), ([1, 7], [1, 7]), ([8], [8]), ([], []), ([10], [10]), ([], []), ([12], [12]), ([], []), ([13, 14], [13, 14]), ([15], [15]), ([16], [16]), ([11, 17], [11, 17]), ([18], [18]), ([], []), ([], []), ([20, 9, 0, 1, 2, 3, 4, 5, 6, 7, 8, 9, 20, 21], [9, 20]), ([21, 19, 22, 0, 1, 2, 3, 4, 5, 6, 7, 8, 9, 10, 11, 12, 13, 14, 15, 16, 17, 18, 19, 20, 21, 22], [19, 21])])
def spec_Wiring.B7 : List Nat := [0, 1, 0, 4, 0, 28, 60, 124, 255, 511, 0, 1024, 0, 4096, 0, 28672, 61440, 126976, 261120, 523264, 0, 0, 3146751, 8388607]
theorem spec_Wiring.tab7 : rtab .any (opsOf Try.f26 7) = spec_Wiring.T7 := by kernel_rfl
theorem spec_Wiring.bits7 : waitsOk spec_Wiring.T7.2 spec_Wiring.B7 = true := by kernel_rfl
def spec_Wiring.T8 : Bool × List (List Nat × List Nat) := (true, [([], []), ([0], [0]), ([], []), ([1, 2], [1, 2]), ([3], [3]), ([4], [4]), ([], []), ([6], [6]), ([], []), ([7, 8], [7, 8]), ([9], [9]), ([10], [10]), ([5, 11], [5, 11]), ([], []), ([13, 12, 0, 1, 2, 3, 4, 5, 6, 7, 8, 9, 10, 11, 12, 13], [12, 13])])
def spec_Wiring.B8 : List Nat := [0, 1, 0, 7, 15, 31, 0, 64, 0, 448, 960, 1984, 4095, 0, 16383]
theorem spec_Wiring.tab8 : rtab .any (opsOf Try.f26 8) = spec_Wiring.T8 := by kernel_rfl
theorem spec_Wiring.bits8 : waitsOk spec_Wiring.T8.2 spec_Wiring.B8 = true := by kernel_rfl
set_option maxHeartbeats 8000000 in
set_option maxRecDepth 100000 in
theorem spec_Wiring.calls (k : Nat) (A0_0 : Option Addr) (c0_0 : Nat) (l0_0 : List (S94)) (A0_1 : Option Addr) (c0_1 : Nat) (l0_1 : List (S97)) (r1 : List (S80)) (r2 : Bool) (w : World) (hr0_0 : Kd.C k94 w A0_0 l0_0.length l0_0) (hc0_0 : l0_0.length ≤ c0_0) (hr0_1 : Kd.C k97 w A0_1 l0_1.length l0_1) (hc0_1 : l0_1.length ≤ c0_1) (h : spec_Wiring.f k l0_0 l0_1 = some (r1, r2)) :
 Calls Try.prog 26 #[.agg #[.slice A0_0 l0_0.length c0_0, .slice A0_1 l0_1.length c0_1]] w fun e w' => ∃ v0_ : Value, e = .returned (.tuple #[v0_, .bool r2]) ∧ Kd.R k80 80 w' w.heap.size (fun _ => True) v0_ r1 ∧ Below w.heap.size w w' := by
 have hu46 := Try.underlying46
 have hu94 := Try.underlying94
 have hu80 := Try.underlying80
 have HR0_0 := zM hr0_0
 have HC0_0 := zM hc0_0
 clear hr0_0 hc0_0
 have HR0_1 := zM hr0_1
 have HC0_1 := zM hc0_1
 clear hr0_1 hc0_1
 have HB := zM (Below.refl w.heap.size w)
 have H : ((some (([] : List (S80)) : List (S80))).bind fun y210 => ((spec_PlanOk.f k l0_0 l0_1).bind fun t213 => (if t213 = true then (spec_Wiring.l0 k y210 0 l0_0 l0_1) else (some (y210, false))))) = some (r1, r2) := h
 clear h
 obtain ⟨y210, hy210⟩ : ∃ y_ : List (S80), y_ = (([] : List (S80))) := ⟨_, rfl⟩
 replace H : ((spec_PlanOk.f k l0_0 l0_1).bind fun t213 => (if t213 = true then (spec_Wiring.l0 k y210 0 l0_0 l0_1) else (some (y210, false)))) = some (r1, r2) := by first | (rw [hy210]; with_reducible exact H) | (have H2_ := (Option.bind_some _ _).symm.trans H; rw [hy210]; with_reducible exact H2_) | (have H2_ := (Option.bind_some _ _).symm.trans H; with_reducible exact H2_) | with_reducible exact H | (rw [hy210]; exact H) | exact H
 have Ny210 := zM hy210
 clear hy210
 replace H := zO.mp H
 obtain ⟨t213, A20, H⟩ := H
 replace H : (if t213 = true then (spec_Wiring.l0 k y210 0 l0_0 l0_1) else (some (y210, false))) = some (r1, r2) := H
 have A2 := zM A20
 clear A20
 by_cases c3 : t213 = true
 case neg =>
  replace c3 := Bool.eq_false_iff.mpr c3
  subst c3
  have H1 : (some (y210, false)) = some (r1, r2) := by rw [if_neg (show ¬ (false = true) by decide)] at H; exact H
  clear H
  have H := H1
  clear H1
  simp only [Option.some.injEq, Prod.mk.injEq] at H
  obtain ⟨rfl, rfl⟩ := H
  go_enter Try.func26, Try.ntmps26
  go_wp2_with (first | ((with_reducible refine gate_dst (N := 1) rfl ?_); refine box_event ?hg (N := 1) ?hd (cs := #[.slice A0_0 l0_0.length c0_0, .slice A0_1 l0_1.length c0_1]) (t := 46) ?hr ?_; (case hd => rfl); (case hg => rfl); (case hr => first | (go_simp; done) | (go_simp; rfl)); intro gb209 hg w101 hbox hb; have n0_ := zM (below_step (by repeat (first | (with_reducible first | exact HB.out | apply zBa | apply zBn | apply zBd) | exact HB.out)) hb); have n1_ := zM (hbox); have n2_ := zM ((by rw [hg]; exact (below_size (by repeat (first | (with_reducible first | exact HB.out | apply zBa | apply zBn | apply zBd) | exact HB.out))) : w.heap.size ≤ gb209)); have n3_ := zM n2_.out; clear HB; have HB := n0_; have BK209 := n1_; have GW209 := n2_; have GE209 := n3_; clear n0_ n1_ n2_ n3_; clear hb hbox hg) | ((with_reducible refine gate_dst (N := 9) rfl ?_); refine Kd.R_lit k80 _ 80 ?hg (N := 9) ?hd (xs := ([] : List (S80))) (inner := []) (ok := fun _ => True) (okp := fun _ => True) ?hr ?hp (fun _ hk => hk) trivial (Below.refl _ _) (Nat.le_refl _) (by simp) ?_; (case hd => rfl); (case hg => rfl); (case hr => first | (go_simp; done) | (go_simp; rfl)); (case hp => exact (Reps.none _ _)); intro v211 w102 ho103 hb hg_ hnew_; clear hg_ hnew_; (first | rw [← Ny210.out] at ho103 | (simp only [Int.reduceToNat] at ho103; rw [← Ny210.out] at ho103)); have n0_ := zM (Kd.R_lower ho103 (below_size (by repeat (first | (with_reducible first | exact HB.out | apply zBa | apply zBn | apply zBd | refine zBs ?_ GE209.out) | exact HB.out)))); have n1_ := zM (zNb (g := gb209) (o := .cells #[.slice A0_0 l0_0.length c0_0, .slice A0_1 l0_1.length c0_1] 46 (0, 0)) (by (with_reducible repeat (first | apply zNn | apply zNd | apply zNa)); exact BK209.out) hb); have n2_ := zM (below_step (by repeat (first | (with_reducible first | exact HB.out | apply zBa | apply zBn | apply zBd | refine zBs ?_ GE209.out) | exact HB.out)) hb); clear BK209; clear HB; have HO212 := n0_; have BK209 := n1_; have HB := n2_; clear n0_ n1_ n2_; clear hb ho103; obtain ⟨hcz104_0, hcz104_1, hfz104_0, hfz104_1⟩ := zc2 BK209.out) | ((with_reducible refine gate_callee (f := 22) rfl ?_); refine goesL_ (some 11) rfl rfl Try.func22 (by kernel_rfl) rfl #[.agg #[.slice A0_0 l0_0.length c0_0, .slice A0_1 l0_1.length c0_1]] rfl (by (try simp only [List.map_toArray, List.map_cons, List.map_nil]); first | done | rfl | (simp only [List.length_drop, List.length_take]; rfl)) ?_; (with_reducible refine (spec_PlanOk.calls k _ _ l0_0 _ _ l0_1 false _ ?side1 ?side2 ?side3 ?side4 A2.out).mono ?_); (case side1 => repeat (first | exact (Kd.C_below HR0_0.out HB.out) | (with_reducible first | refine zCa ?_ _ | refine zCn ?_ _ | refine zCd ?_))); (case side2 => exact HC0_0.out); (case side3 => repeat (first | exact (Kd.C_below HR0_1.out HB.out) | (with_reducible first | refine zCa ?_ _ | refine zCn ?_ _ | refine zCd ?_))); (case side4 => exact HC0_1.out); rintro e w105 ⟨rfl, hb⟩; refine ⟨_, rfl, ?_⟩; have n0_ := zM (Kd.R_below (by (with_reducible repeat (first | apply zRa | apply zRn | apply zRd)); first | exact HO212.out | (subst_vars; exact HO212.out)) hb); have n1_ := zM (zNb (g := gb209) (o := .cells #[.slice A0_0 l0_0.length c0_0, .slice A0_1 l0_1.length c0_1] 46 (0, 0)) (by (with_reducible repeat (first | apply zNn | apply zNd | apply zNa)); exact BK209.out) hb); have n2_ := zM (below_step (by repeat (first | (with_reducible first | exact HB.out | apply zBa | apply zBn | apply zBd | refine zBs ?_ GE209.out) | exact HB.out)) hb); clear HO212; clear BK209; clear HB; have HO212 := n0_; have BK209 := n1_; have HB := n2_; clear n0_ n1_ n2_; (try clear hb); (try clear hb2); (try clear hk); (try clear hi)))
  go_ret2
  exact ⟨_, by first | rfl | (simp [errW_none, errW_some] <;> rfl) | (simp [*, errW_none, errW_some] <;> rfl), by (with_reducible repeat (first | apply zRa | apply zRn | apply zRd)); first | exact HO212.out | (subst_vars; exact HO212.out), by repeat (first | (with_reducible first | exact HB.out | apply zBa | apply zBn | apply zBd | refine zBs ?_ GE209.out) | exact HB.out)⟩
 subst c3
 have H1 : (spec_Wiring.l0 k y210 0 l0_0 l0_1) = some (r1, r2) := by rw [if_pos rfl] at H; exact H
 clear H
 have H := H1
 clear H1
 have H' := zM H
 clear H
 go_enter Try.func26, Try.ntmps26
 go_wp2_with (first | ((with_reducible refine gate_dst (N := 1) rfl ?_); refine box_event ?hg (N := 1) ?hd (cs := #[.slice A0_0 l0_0.length c0_0, .slice A0_1 l0_1.length c0_1]) (t := 46) ?hr ?_; (case hd => rfl); (case hg => rfl); (case hr => first | (go_simp; done) | (go_simp; rfl)); intro gb209 hg w4 hbox hb; have n0_ := zM (below_step (by repeat (first | (with_reducible first | exact HB.out | apply zBa | apply zBn | apply zBd) | exact HB.out)) hb); have n1_ := zM (hbox); have n2_ := zM ((by rw [hg]; exact (below_size (by repeat (first | (with_reducible first | exact HB.out | apply zBa | apply zBn | apply zBd) | exact HB.out))) : w.heap.size ≤ gb209)); have n3_ := zM n2_.out; clear HB; have HB := n0_; have BK209 := n1_; have GW209 := n2_; have GE209 := n3_; clear n0_ n1_ n2_ n3_; clear hb hbox hg) | ((with_reducible refine gate_dst (N := 9) rfl ?_); refine Kd.R_lit k80 _ 80 ?hg (N := 9) ?hd (xs := ([] : List (S80))) (inner := []) (ok := fun _ => True) (okp := fun _ => True) ?hr ?hp (fun _ hk => hk) trivial (Below.refl _ _) (Nat.le_refl _) (by simp) ?_; (case hd => rfl); (case hg => rfl); (case hr => first | (go_simp; done) | (go_simp; rfl)); (case hp => exact (Reps.none _ _)); intro v211 w5 ho6 hb hg_ hnew_; clear hg_ hnew_; (first | rw [← Ny210.out] at ho6 | (simp only [Int.reduceToNat] at ho6; rw [← Ny210.out] at ho6)); have n0_ := zM (Kd.R_lower ho6 (below_size (by repeat (first | (with_reducible first | exact HB.out | apply zBa | apply zBn | apply zBd | refine zBs ?_ GE209.out) | exact HB.out)))); have n1_ := zM (zNb (g := gb209) (o := .cells #[.slice A0_0 l0_0.length c0_0, .slice A0_1 l0_1.length c0_1] 46 (0, 0)) (by (with_reducible repeat (first | apply zNn | apply zNd | apply zNa)); exact BK209.out) hb); have n2_ := zM (below_step (by repeat (first | (with_reducible first | exact HB.out | apply zBa | apply zBn | apply zBd | refine zBs ?_ GE209.out) | exact HB.out)) hb); clear BK209; clear HB; have HO212 := n0_; have BK209 := n1_; have HB := n2_; clear n0_ n1_ n2_; clear hb ho6; obtain ⟨hcz7_0, hcz7_1, hfz7_0, hfz7_1⟩ := zc2 BK209.out) | ((with_reducible refine gate_callee (f := 22) rfl ?_); refine goesL_ (some 11) rfl rfl Try.func22 (by kernel_rfl) rfl #[.agg #[.slice A0_0 l0_0.length c0_0, .slice A0_1 l0_1.length c0_1]] rfl (by (try simp only [List.map_toArray, List.map_cons, List.map_nil]); first | done | rfl | (simp only [List.length_drop, List.length_take]; rfl)) ?_; (with_reducible refine (spec_PlanOk.calls k _ _ l0_0 _ _ l0_1 true _ ?side1 ?side2 ?side3 ?side4 A2.out).mono ?_); (case side1 => repeat (first | exact (Kd.C_below HR0_0.out HB.out) | (with_reducible first | refine zCa ?_ _ | refine zCn ?_ _ | refine zCd ?_))); (case side2 => exact HC0_0.out); (case side3 => repeat (first | exact (Kd.C_below HR0_1.out HB.out) | (with_reducible first | refine zCa ?_ _ | refine zCn ?_ _ | refine zCd ?_))); (case side4 => exact HC0_1.out); rintro e w8 ⟨rfl, hb⟩; refine ⟨_, rfl, ?_⟩; have n0_ := zM (Kd.R_below (by (with_reducible repeat (first | apply zRa | apply zRn | apply zRd)); first | exact HO212.out | (subst_vars; exact HO212.out)) hb); have n1_ := zM (zNb (g := gb209) (o := .cells #[.slice A0_0 l0_0.length c0_0, .slice A0_1 l0_1.length c0_1] 46 (0, 0)) (by (with_reducible repeat (first | apply zNn | apply zNd | apply zNa)); exact BK209.out) hb); have n2_ := zM (below_step (by repeat (first | (with_reducible first | exact HB.out | apply zBa | apply zBn | apply zBd | refine zBs ?_ GE209.out) | exact HB.out)) hb); clear HO212; clear BK209; clear HB; have HO212 := n0_; have BK209 := n1_; have HB := n2_; clear n0_ n1_ n2_; (try clear hb); (try clear hb2); (try clear hk); (try clear hi)))
 (try simp only [Act.put, zS1, zS2, zS3])
 go_loopg [4, 5] k (fun kq v4 v5 w' => ∃ (x4_1 : List (S80)) (x5_1 : Int), v5 = .int .i64 x5_1 ∧ Aside0 (spec_Wiring.l0 kq x4_1 x5_1 l0_0 l0_1 = some (r1, r2)) ∧ Aside0 (kq ≤ k) ∧ Aside0 (Kd.R k80 80 w' w.heap.size (fun _ => True) v4 x4_1) ∧ Aside0 (w'.heap[gb209]? = some (.cells #[(.slice A0_0 l0_0.length c0_0), (.slice A0_1 l0_1.length c0_1)] 46 (0, 0))) ∧ Aside0 (Below w.heap.size w w'))
 case atStart => exact ⟨(y210), (0), (by first | rfl | (simp; done) | (simp [*]; done)), H', ⟨Nat.le_refl _⟩, ⟨by (with_reducible repeat (first | apply zRa | apply zRn | apply zRd)); first | exact HO212.out | (subst_vars; exact HO212.out)⟩, ⟨by (with_reducible repeat (first | apply zNn | apply zNd | apply zNa)); exact BK209.out⟩, ⟨by repeat (first | (with_reducible first | exact HB.out | apply zBa | apply zBn | apply zBd | refine zBs ?_ GE209.out) | exact HB.out)⟩⟩
 case round =>
  clear H'
  try clear c2
  try clear p2
  try clear c3
  try clear hcz7_0
  try clear hcz7_1
  try clear hfz7_0
  try clear hfz7_1
  obtain ⟨x4_1, x5_1, rfl, HA, HK1, HO_4, BK209, HB⟩ := hrel
  cases gk with
  | zero => exact absurd HA.out (by simp [spec_Wiring.l0])
  | succ k1 =>
   have H := HA.out
   clear HA
   simp only [spec_Wiring.l0] at H
   by_cases c9 : x5_1 < (l0_1.length : Int)
   case neg =>
    rw [if_neg c9] at H
    have c9b0 : decide (x5_1 < (l0_1.length : Int)) = false := decide_eq_false c9
    clear c9
    simp only [Option.some.injEq, Prod.mk.injEq] at H
    obtain ⟨rfl, rfl⟩ := H
    obtain ⟨hcz100_0, hcz100_1, hfz100_0, hfz100_1⟩ := zc2 BK209.out
    go_wp2
    go_ret2
    exact ⟨_, by first | rfl | (simp [errW_none, errW_some] <;> rfl) | (simp [*, errW_none, errW_some] <;> rfl), by (with_reducible repeat (first | apply zRa | apply zRn | apply zRd)); first | exact HO_4.out | (subst_vars; exact HO_4.out), by repeat (first | (with_reducible first | exact HB.out | apply zBa | apply zBn | apply zBd | refine zBs ?_ GE209.out) | exact HB.out)⟩
   rw [if_pos c9] at H
   have c9b0 : decide (x5_1 < (l0_1.length : Int)) = true := zE c9
   clear c9
   by_cases c10 : 0 ≤ x5_1
   case neg =>
    rw [if_neg c10] at H
    exact absurd H (by simp)
   rw [if_pos c10] at H
   have c10b0 : decide (0 ≤ x5_1) = true := zE c10
   clear c10
   by_cases c11 : 0 ≤ ((rd_T97 l0_1 x5_1).f0)
   case neg =>
    rw [if_neg c11] at H
    exact absurd H (by simp)
   rw [if_pos c11] at H
   have c11b0 : decide (0 ≤ ((rd_T97 l0_1 x5_1).f0)) = true := zE c11
   clear c11
   by_cases c12 : ((rd_T97 l0_1 x5_1).f0) < (l0_0.length : Int)
   case neg =>
    rw [if_neg c12] at H
    exact absurd H (by simp)
   rw [if_pos c12] at H
   have c12b0 : decide (((rd_T97 l0_1 x5_1).f0) < (l0_0.length : Int)) = true := zE c12
   clear c12
   by_cases c13 : 0 ≤ ((rd_T97 l0_1 x5_1).f1)
   case neg =>
    rw [if_neg c13] at H
    exact absurd H (by simp)
   rw [if_pos c13] at H
   have c13b0 : decide (0 ≤ ((rd_T97 l0_1 x5_1).f1)) = true := zE c13
   clear c13
   by_cases c14 : ((rd_T97 l0_1 x5_1).f1) < (l0_0.length : Int)
   case neg =>
    rw [if_neg c14] at H
    exact absurd H (by simp)
   rw [if_pos c14] at H
   have c14b0 : decide (((rd_T97 l0_1 x5_1).f1) < (l0_0.length : Int)) = true := zE c14
   clear c14
   have HC15 := zM H
   clear H
   obtain ⟨hcz16_0, hcz16_1, hfz16_0, hfz16_1⟩ := zc2 BK209.out
   try go_wp2
   have n0_ := zM (zRd HO_4.out)
   have n1_ := zM (zNd BK209.out)
   have n2_ := zM (zBd HB.out)
   clear HO_4
   clear BK209
   clear HB
   have HO_4 := n0_
   have BK209 := n1_
   have HB := n2_
   clear n0_ n1_ n2_
   have p214 : 0 ≤ (x5_1 : Int) := zT (by assumption)
   have q214 : x5_1 < (l0_1.length : Int) := zT (by assumption)
   obtain ⟨ad214, e214, hx214_0, hx214_1⟩ := at_T97 HR0_1.out x5_1 p214 q214
   have hw214_1 := hx214_1
   have hw214_0 := hx214_0
   cases e214
   replace hx214_0 := (HB.out.cell (zW w _ hx214_0)).trans hx214_0
   replace hx214_1 := (HB.out.cell (zW w _ hx214_1)).trans hx214_1
   replace p214 := eq_true p214
   replace q214 := eq_true q214
   have p215 : 0 ≤ (((rd_T97 l0_1 x5_1).f0) : Int) := zT (by assumption)
   have q215 : ((rd_T97 l0_1 x5_1).f0) < (l0_0.length : Int) := zT (by assumption)
   obtain ⟨ad215, e215, hx215_0, hx215_1, hx215_2⟩ := at_T94 HR0_0.out ((rd_T97 l0_1 x5_1).f0) p215 q215
   have hw215_2 := hx215_2
   have hw215_1 := hx215_1
   have hw215_0 := hx215_0
   cases e215
   replace hx215_0 := (HB.out.cell (zW w _ hx215_0)).trans hx215_0
   replace hx215_1 := (HB.out.cell (zW w _ hx215_1)).trans hx215_1
   replace hx215_2 := (HB.out.cell (zW w _ hx215_2)).trans hx215_2
   replace p215 := eq_true p215
   replace q215 := eq_true q215
   have p216 : 0 ≤ (x5_1 : Int) := zT (by assumption)
   have q216 : x5_1 < (l0_1.length : Int) := zT (by assumption)
   obtain ⟨ad216, e216, hx216_0, hx216_1⟩ := at_T97 HR0_1.out x5_1 p216 q216
   have hw216_1 := hx216_1
   have hw216_0 := hx216_0
   obtain rfl : ad214 = ad216 := (by injection e216)
   replace hx216_0 := (HB.out.cell (zW w _ hx216_0)).trans hx216_0
   replace hx216_1 := (HB.out.cell (zW w _ hx216_1)).trans hx216_1
   replace p216 := eq_true p216
   replace q216 := eq_true q216
   have p217 : 0 ≤ (((rd_T97 l0_1 x5_1).f1) : Int) := zT (by assumption)
   have q217 : ((rd_T97 l0_1 x5_1).f1) < (l0_0.length : Int) := zT (by assumption)
   obtain ⟨ad217, e217, hx217_0, hx217_1, hx217_2⟩ := at_T94 HR0_0.out ((rd_T97 l0_1 x5_1).f1) p217 q217
   have hw217_2 := hx217_2
   have hw217_1 := hx217_1
   have hw217_0 := hx217_0
   obtain rfl : ad215 = ad217 := (by injection e217)
   replace hx217_0 := (HB.out.cell (zW w _ hx217_0)).trans hx217_0
   replace hx217_1 := (HB.out.cell (zW w _ hx217_1)).trans hx217_1
   replace hx217_2 := (HB.out.cell (zW w _ hx217_2)).trans hx217_2
   replace p217 := eq_true p217
   replace q217 := eq_true q217
   refine start_ (n := 24) (S := fun w' => w'.cell? ⟨gb209, 0, none⟩ = some (.slice (some ad215) l0_0.length c0_0) ∧ w'.cell? ⟨gb209, 1, none⟩ = some (.slice (some ad214) l0_1.length c0_1) ∧ w'.cell? (ad214.add ((x5_1).toNat * 2)) = some (.int .i64 ((rd_T97 l0_1 x5_1).f0)) ∧ w'.cell? ⟨(ad214.add ((x5_1).toNat * 2)).block, (ad214.add ((x5_1).toNat * 2)).off + 1, none⟩ = some (.int .i64 ((rd_T97 l0_1 x5_1).f1)) ∧ w'.cell? (ad215.add ((((rd_T97 l0_1 x5_1).f0)).toNat * 3)) = some (.string ((rd_T94 l0_0 ((rd_T97 l0_1 x5_1).f0)).f0)) ∧ w'.cell? ⟨(ad215.add ((((rd_T97 l0_1 x5_1).f0)).toNat * 3)).block, (ad215.add ((((rd_T97 l0_1 x5_1).f0)).toNat * 3)).off + 1, none⟩ = some (.int .i64 ((rd_T94 l0_0 ((rd_T97 l0_1 x5_1).f0)).f1)) ∧ w'.cell? ⟨(ad215.add ((((rd_T97 l0_1 x5_1).f0)).toNat * 3)).block, (ad215.add ((((rd_T97 l0_1 x5_1).f0)).toNat * 3)).off + 2, none⟩ = some (.int .i64 ((rd_T94 l0_0 ((rd_T97 l0_1 x5_1).f0)).f2)) ∧ w'.cell? (ad214.add ((x5_1).toNat * 2)) = some (.int .i64 ((rd_T97 l0_1 x5_1).f0)) ∧ w'.cell? ⟨(ad214.add ((x5_1).toNat * 2)).block, (ad214.add ((x5_1).toNat * 2)).off + 1, none⟩ = some (.int .i64 ((rd_T97 l0_1 x5_1).f1)) ∧ w'.cell? (ad215.add ((((rd_T97 l0_1 x5_1).f1)).toNat * 3)) = some (.string ((rd_T94 l0_0 ((rd_T97 l0_1 x5_1).f1)).f0)) ∧ w'.cell? ⟨(ad215.add ((((rd_T97 l0_1 x5_1).f1)).toNat * 3)).block, (ad215.add ((((rd_T97 l0_1 x5_1).f1)).toNat * 3)).off + 1, none⟩ = some (.int .i64 ((rd_T94 l0_0 ((rd_T97 l0_1 x5_1).f1)).f1)) ∧ w'.cell? ⟨(ad215.add ((((rd_T97 l0_1 x5_1).f1)).toNat * 3)).block, (ad215.add ((((rd_T97 l0_1 x5_1).f1)).toNat * 3)).off + 2, none⟩ = some (.int .i64 ((rd_T94 l0_0 ((rd_T97 l0_1 x5_1).f1)).f2))) (ds := []) #[zf,zf,zf,zf,zf,zf,zf,zf,zf,zf,zf,zf,zf,zf,zf,zf,zf,zf,zf,zf,zf,zf,zf,zf] (by kernel_rfl) rfl rfl ⟨(blk_cell BK209.out 0).trans rfl, (blk_cell BK209.out 1).trans rfl, ((HB.out.cell (zW w _ hw214_0)).trans hw214_0), ((HB.out.cell (zW w _ hw214_1)).trans hw214_1), ((HB.out.cell (zW w _ hw215_0)).trans hw215_0), ((HB.out.cell (zW w _ hw215_1)).trans hw215_1), ((HB.out.cell (zW w _ hw215_2)).trans hw215_2), ((HB.out.cell (zW w _ hw216_0)).trans hw216_0), ((HB.out.cell (zW w _ hw216_1)).trans hw216_1), ((HB.out.cell (zW w _ hw217_0)).trans hw217_0), ((HB.out.cell (zW w _ hw217_1)).trans hw217_1), ((HB.out.cell (zW w _ hw217_2)).trans hw217_2)⟩ (fun hHeld => ?_); refine with_tabW spec_Wiring.tab7 spec_Wiring.bits7 (fun HT_ HW_ => ?_)
   generalize wr.drew = w17 at HO_4 BK209 HB hx214_0 hx214_1 hx215_0 hx215_1 hx215_2 hx216_0 hx216_1 hx217_0 hx217_1 hx217_2 hHeld ⊢
   refine pure_ (i := 0) (N := some 21) (v := ?_) (a' := ?_) #[zt,zf,zf,zf,zf,zf,zf,zf,zf,zf,zf,zf,zf,zf,zf,zf,zf,zf,zf,zf,zf,zf,zf,zf] rfl rfl (any_of HT_.out (by kernel_rfl)) (fun _ _ _ h => h) (Or.inl ⟨by rfl, ?_⟩) ?_ ?_
   rotate_left
   ·intro w'
    go_simp
    with_reducible rfl
   rotate_left
   ·simp only [Act.put, zS1, zS2, zS3, i64_w, i32_w]
    rfl
   refine pure_ (i := 2) (N := some 23) (v := ?_) (a' := ?_) #[zt,zf,zt,zf,zf,zf,zf,zf,zf,zf,zf,zf,zf,zf,zf,zf,zf,zf,zf,zf,zf,zf,zf,zf] rfl rfl (any_of HT_.out (by kernel_rfl)) (fun _ _ _ h => h) (Or.inl ⟨by rfl, ?_⟩) ?_ ?_
   rotate_left
   ·intro w'
    go_simp
    with_reducible rfl
   rotate_left
   ·simp only [Act.put, zS1, zS2, zS3, i64_w, i32_w]
    rfl
   refine pure_ (i := 4) (N := some 25) (v := ?_) (a' := ?_) #[zt,zf,zt,zf,zt,zf,zf,zf,zf,zf,zf,zf,zf,zf,zf,zf,zf,zf,zf,zf,zf,zf,zf,zf] rfl rfl (any_of HT_.out (by kernel_rfl)) (fun _ _ _ h => h) (Or.inl ⟨by rfl, ?_⟩) ?_ ?_
   rotate_left
   ·intro w'
    go_simp
    with_reducible rfl
   rotate_left
   ·simp only [Act.put, zS1, zS2, zS3, i64_w, i32_w]
    rfl
   refine pure_ (i := 10) (N := some 31) (v := ?_) (a' := ?_) #[zt,zf,zt,zf,zt,zf,zf,zf,zf,zf,zt,zf,zf,zf,zf,zf,zf,zf,zf,zf,zf,zf,zf,zf] rfl rfl (any_of HT_.out (by kernel_rfl)) (fun _ _ _ h => h) (Or.inl ⟨by rfl, ?_⟩) ?_ ?_
   rotate_left
   ·intro w'
    go_simp
    with_reducible rfl
   rotate_left
   ·simp only [Act.put, zS1, zS2, zS3, i64_w, i32_w]
    rfl
   refine pure_ (i := 12) (N := some 33) (v := ?_) (a' := ?_) #[zt,zf,zt,zf,zt,zf,zf,zf,zf,zf,zt,zf,zt,zf,zf,zf,zf,zf,zf,zf,zf,zf,zf,zf] rfl rfl (any_of HT_.out (by kernel_rfl)) (fun _ _ _ h => h) (Or.inl ⟨by rfl, ?_⟩) ?_ ?_
   rotate_left
   ·intro w'
    go_simp
    with_reducible rfl
   rotate_left
   ·simp only [Act.put, zS1, zS2, zS3, i64_w, i32_w]
    rfl
   refine pure_ (i := 14) (N := some 35) (v := ?_) (a' := ?_) #[zt,zf,zt,zf,zt,zf,zf,zf,zf,zf,zt,zf,zt,zf,zt,zf,zf,zf,zf,zf,zf,zf,zf,zf] rfl rfl (any_of HT_.out (by kernel_rfl)) (fun _ _ _ h => h) (Or.inl ⟨by rfl, ?_⟩) ?_ ?_
   rotate_left
   ·intro w'
    go_simp
    with_reducible rfl
   rotate_left
   ·simp only [Act.put, zS1, zS2, zS3, i64_w, i32_w]
    rfl
   refine take_ (i := 1) (N := some 22) (v := ?_) (a' := ?_) #[zt,zt,zt,zf,zt,zf,zf,zf,zf,zf,zt,zf,zt,zf,zt,zf,zf,zf,zf,zf,zf,zf,zf,zf] rfl rfl (take_ofW HT_.out HW_.out (by kernel_rfl)) (fun _ _ _ h => h) (Or.inl ⟨by rfl, ?_⟩) hHeld ?_ ?_
   rotate_left
   ·rintro w' ⟨s0, s1, s2, s3, s4, s5, s6, s7, s8, s9, s10, s11⟩
    go_simp
    with_reducible rfl
   rotate_left
   ·simp only [Act.put, zS1, zS2, zS3, i64_w, i32_w]
    rfl
   refine take_ (i := 3) (N := some 24) (v := ?_) (a' := ?_) #[zt,zt,zt,zt,zt,zf,zf,zf,zf,zf,zt,zf,zt,zf,zt,zf,zf,zf,zf,zf,zf,zf,zf,zf] rfl rfl (take_ofW HT_.out HW_.out (by kernel_rfl)) (fun _ _ _ h => h) (Or.inl ⟨by rfl, ?_⟩) hHeld ?_ ?_
   rotate_left
   ·rintro w' ⟨s0, s1, s2, s3, s4, s5, s6, s7, s8, s9, s10, s11⟩
    go_simp
    with_reducible rfl
   rotate_left
   ·simp only [Act.put, zS1, zS2, zS3, i64_w, i32_w]
    rfl
   refine pure_ (i := 5) (N := some 26) (v := ?_) (a' := ?_) #[zt,zt,zt,zt,zt,zt,zf,zf,zf,zf,zt,zf,zt,zf,zt,zf,zf,zf,zf,zf,zf,zf,zf,zf] rfl rfl (any_of HT_.out (by kernel_rfl)) (fun _ _ _ h => h) (Or.inl ⟨by rfl, ?_⟩) ?_ ?_
   rotate_left
   ·intro w'
    go_simp
    with_reducible rfl
   rotate_left
   ·simp only [Act.put, zS1, zS2, zS3, i64_w, i32_w]
    rfl
   refine pure_ (i := 6) (N := some 27) (v := ?_) (a' := ?_) #[zt,zt,zt,zt,zt,zt,zt,zf,zf,zf,zt,zf,zt,zf,zt,zf,zf,zf,zf,zf,zf,zf,zf,zf] rfl rfl (any_of HT_.out (by kernel_rfl)) (fun _ _ _ h => h) (Or.inl ⟨by rfl, ?_⟩) ?_ ?_
   rotate_left
   ·intro w'
    go_simp
    with_reducible rfl
   rotate_left
   ·simp only [Act.put, zS1, zS2, zS3, i64_w, i32_w]
    rfl
   refine take_ (i := 7) (N := some 28) (v := ?_) (a' := ?_) #[zt,zt,zt,zt,zt,zt,zt,zt,zf,zf,zt,zf,zt,zf,zt,zf,zf,zf,zf,zf,zf,zf,zf,zf] rfl rfl (take_ofW HT_.out HW_.out (by kernel_rfl)) (fun _ _ _ h => h) (Or.inl ⟨by rfl, ?_⟩) hHeld ?_ ?_
   rotate_left
   ·rintro w' ⟨s0, s1, s2, s3, s4, s5, s6, s7, s8, s9, s10, s11⟩
    go_simp
    with_reducible rfl
   rotate_left
   ·simp only [Act.put, zS1, zS2, zS3, i64_w, i32_w]
    rfl
   refine pure_ (i := 8) (N := some 29) (v := ?_) (a' := ?_) #[zt,zt,zt,zt,zt,zt,zt,zt,zt,zf,zt,zf,zt,zf,zt,zf,zf,zf,zf,zf,zf,zf,zf,zf] rfl rfl (any_of HT_.out (by kernel_rfl)) (fun _ _ _ h => h) (Or.inl ⟨by rfl, ?_⟩) ?_ ?_
   rotate_left
   ·intro w'
    go_simp
    with_reducible rfl
   rotate_left
   ·simp only [Act.put, zS1, zS2, zS3, i64_w, i32_w]
    rfl
   refine take_ (i := 9) (N := some 30) (v := ?_) (a' := ?_) #[zt,zt,zt,zt,zt,zt,zt,zt,zt,zt,zt,zf,zt,zf,zt,zf,zf,zf,zf,zf,zf,zf,zf,zf] rfl rfl (take_ofW HT_.out HW_.out (by kernel_rfl)) (fun _ _ _ h => h) (Or.inl ⟨by rfl, ?_⟩) hHeld ?_ ?_
   rotate_left
   ·rintro w' ⟨s0, s1, s2, s3, s4, s5, s6, s7, s8, s9, s10, s11⟩
    go_simp
    with_reducible rfl
   rotate_left
   ·simp only [Act.put, zS1, zS2, zS3, i64_w, i32_w]
    rfl
   refine take_ (i := 11) (N := some 32) (v := ?_) (a' := ?_) #[zt,zt,zt,zt,zt,zt,zt,zt,zt,zt,zt,zt,zt,zf,zt,zf,zf,zf,zf,zf,zf,zf,zf,zf] rfl rfl (take_ofW HT_.out HW_.out (by kernel_rfl)) (fun _ _ _ h => h) (Or.inl ⟨by rfl, ?_⟩) hHeld ?_ ?_
   rotate_left
   ·rintro w' ⟨s0, s1, s2, s3, s4, s5, s6, s7, s8, s9, s10, s11⟩
    go_simp
    with_reducible rfl
   rotate_left
   ·simp only [Act.put, zS1, zS2, zS3, i64_w, i32_w]
    rfl
   refine take_ (i := 13) (N := some 34) (v := ?_) (a' := ?_) #[zt,zt,zt,zt,zt,zt,zt,zt,zt,zt,zt,zt,zt,zt,zt,zf,zf,zf,zf,zf,zf,zf,zf,zf] rfl rfl (take_ofW HT_.out HW_.out (by kernel_rfl)) (fun _ _ _ h => h) (Or.inl ⟨by rfl, ?_⟩) hHeld ?_ ?_
   rotate_left
   ·rintro w' ⟨s0, s1, s2, s3, s4, s5, s6, s7, s8, s9, s10, s11⟩
    go_simp
    with_reducible rfl
   rotate_left
   ·simp only [Act.put, zS1, zS2, zS3, i64_w, i32_w]
    rfl
   refine pure_ (i := 15) (N := some 36) (v := ?_) (a' := ?_) #[zt,zt,zt,zt,zt,zt,zt,zt,zt,zt,zt,zt,zt,zt,zt,zt,zf,zf,zf,zf,zf,zf,zf,zf] rfl rfl (any_of HT_.out (by kernel_rfl)) (fun _ _ _ h => h) (Or.inl ⟨by rfl, ?_⟩) ?_ ?_
   rotate_left
   ·intro w'
    go_simp
    with_reducible rfl
   rotate_left
   ·simp only [Act.put, zS1, zS2, zS3, i64_w, i32_w]
    rfl
   refine pure_ (i := 16) (N := some 37) (v := ?_) (a' := ?_) #[zt,zt,zt,zt,zt,zt,zt,zt,zt,zt,zt,zt,zt,zt,zt,zt,zt,zf,zf,zf,zf,zf,zf,zf] rfl rfl (any_of HT_.out (by kernel_rfl)) (fun _ _ _ h => h) (Or.inl ⟨by rfl, ?_⟩) ?_ ?_
   rotate_left
   ·intro w'
    go_simp
    with_reducible rfl
   rotate_left
   ·simp only [Act.put, zS1, zS2, zS3, i64_w, i32_w]
    rfl
   refine take_ (i := 17) (N := some 38) (v := ?_) (a' := ?_) #[zt,zt,zt,zt,zt,zt,zt,zt,zt,zt,zt,zt,zt,zt,zt,zt,zt,zt,zf,zf,zf,zf,zf,zf] rfl rfl (take_ofW HT_.out HW_.out (by kernel_rfl)) (fun _ _ _ h => h) (Or.inl ⟨by rfl, ?_⟩) hHeld ?_ ?_
   rotate_left
   ·rintro w' ⟨s0, s1, s2, s3, s4, s5, s6, s7, s8, s9, s10, s11⟩
    go_simp
    with_reducible rfl
   rotate_left
   ·simp only [Act.put, zS1, zS2, zS3, i64_w, i32_w]
    rfl
   refine pure_ (i := 18) (N := some 39) (v := ?_) (a' := ?_) #[zt,zt,zt,zt,zt,zt,zt,zt,zt,zt,zt,zt,zt,zt,zt,zt,zt,zt,zt,zf,zf,zf,zf,zf] rfl rfl (any_of HT_.out (by kernel_rfl)) (fun _ _ _ h => h) (Or.inl ⟨by rfl, ?_⟩) ?_ ?_
   rotate_left
   ·intro w'
    go_simp
    with_reducible rfl
   rotate_left
   ·simp only [Act.put, zS1, zS2, zS3, i64_w, i32_w]
    rfl
   refine take_ (i := 19) (N := some 40) (v := ?_) (a' := ?_) #[zt,zt,zt,zt,zt,zt,zt,zt,zt,zt,zt,zt,zt,zt,zt,zt,zt,zt,zt,zt,zf,zf,zf,zf] rfl rfl (take_ofW HT_.out HW_.out (by kernel_rfl)) (fun _ _ _ h => h) (Or.inl ⟨by rfl, ?_⟩) hHeld ?_ ?_
   rotate_left
   ·rintro w' ⟨s0, s1, s2, s3, s4, s5, s6, s7, s8, s9, s10, s11⟩
    go_simp
    with_reducible rfl
   rotate_left
   ·simp only [Act.put, zS1, zS2, zS3, i64_w, i32_w]
    rfl
   refine join_ (σ := Nat × Nat) 2 #[zt,zt,zt,zt,zt,zt,zt,zt,zt,zt,zt,zt,zt,zt,zt,zt,zt,zt,zt,zt,zt,zt,zf,zf] (fun s_ => [(6, .pointer (some ⟨s_.1, 0, none⟩)), (7, .pointer (some ⟨s_.2, 0, none⟩))]) (fun s_ w' => (w'.cell? ⟨gb209, 0, none⟩ = some (.slice (some ad215) l0_0.length c0_0) ∧ w'.cell? ⟨gb209, 1, none⟩ = some (.slice (some ad214) l0_1.length c0_1) ∧ w'.cell? (ad214.add ((x5_1).toNat * 2)) = some (.int .i64 ((rd_T97 l0_1 x5_1).f0)) ∧ w'.cell? ⟨(ad214.add ((x5_1).toNat * 2)).block, (ad214.add ((x5_1).toNat * 2)).off + 1, none⟩ = some (.int .i64 ((rd_T97 l0_1 x5_1).f1)) ∧ w'.cell? (ad215.add ((((rd_T97 l0_1 x5_1).f0)).toNat * 3)) = some (.string ((rd_T94 l0_0 ((rd_T97 l0_1 x5_1).f0)).f0)) ∧ w'.cell? ⟨(ad215.add ((((rd_T97 l0_1 x5_1).f0)).toNat * 3)).block, (ad215.add ((((rd_T97 l0_1 x5_1).f0)).toNat * 3)).off + 1, none⟩ = some (.int .i64 ((rd_T94 l0_0 ((rd_T97 l0_1 x5_1).f0)).f1)) ∧ w'.cell? ⟨(ad215.add ((((rd_T97 l0_1 x5_1).f0)).toNat * 3)).block, (ad215.add ((((rd_T97 l0_1 x5_1).f0)).toNat * 3)).off + 2, none⟩ = some (.int .i64 ((rd_T94 l0_0 ((rd_T97 l0_1 x5_1).f0)).f2)) ∧ w'.cell? (ad214.add ((x5_1).toNat * 2)) = some (.int .i64 ((rd_T97 l0_1 x5_1).f0)) ∧ w'.cell? ⟨(ad214.add ((x5_1).toNat * 2)).block, (ad214.add ((x5_1).toNat * 2)).off + 1, none⟩ = some (.int .i64 ((rd_T97 l0_1 x5_1).f1)) ∧ w'.cell? (ad215.add ((((rd_T97 l0_1 x5_1).f1)).toNat * 3)) = some (.string ((rd_T94 l0_0 ((rd_T97 l0_1 x5_1).f1)).f0)) ∧ w'.cell? ⟨(ad215.add ((((rd_T97 l0_1 x5_1).f1)).toNat * 3)).block, (ad215.add ((((rd_T97 l0_1 x5_1).f1)).toNat * 3)).off + 1, none⟩ = some (.int .i64 ((rd_T94 l0_0 ((rd_T97 l0_1 x5_1).f1)).f1)) ∧ w'.cell? ⟨(ad215.add ((((rd_T97 l0_1 x5_1).f1)).toNat * 3)).block, (ad215.add ((((rd_T97 l0_1 x5_1).f1)).toNat * 3)).off + 2, none⟩ = some (.int .i64 ((rd_T94 l0_0 ((rd_T97 l0_1 x5_1).f1)).f2))) ∧ (Kd.R k80 80 w' w.heap.size (fun _ => True) u4 x4_1) ∧ (w'.heap[gb209]? = some (.cells #[.slice (some ad215) l0_0.length c0_0, .slice (some ad214) l0_1.length c0_1] 46 (0, 0))) ∧ (w'.heap[s_.1]? = some (.cells #[.string (⟨#[]⟩ : ByteArray), .int .i64 0, .int .i64 0] 94 (0, 0))) ∧ (w'.heap[s_.2]? = some (.cells #[.string (⟨#[]⟩ : ByteArray), .int .i64 0, .int .i64 0] 94 (0, 0))) ∧ (w.heap.size ≤ s_.1) ∧ (w.heap.size ≤ s_.1) ∧ (gb209 ≠ s_.1) ∧ (s_.1 ≠ gb209) ∧ (s_.2 ≠ s_.1) ∧ (s_.1 ≠ s_.2) ∧ (w.heap.size ≤ s_.2) ∧ (w.heap.size ≤ s_.2) ∧ (gb209 ≠ s_.2) ∧ (s_.2 ≠ gb209) ∧ (Below w.heap.size w w')) ?_ ?_
   rotate_left
   ·intro hCont
    refine two_ (i := 20) (j := 21) (Ni := some 6) (Nj := some 7) #[zt,zt,zt,zt,zt,zt,zt,zt,zt,zt,zt,zt,zt,zt,zt,zt,zt,zt,zt,zt,zt,zf,zf,zf] #[zt,zt,zt,zt,zt,zt,zt,zt,zt,zt,zt,zt,zt,zt,zt,zt,zt,zt,zt,zt,zf,zt,zf,zf] rfl rfl rfl rfl (two_of HT_.out (by kernel_rfl)) (by decide) (by decide) (fun K hK => ?_) (fun K hK => ?_)
    ·skip
     refine box_step ?hg (N := 6) ?hd (cs := #[.string (⟨#[]⟩ : ByteArray), .int .i64 0, .int .i64 0]) (t := 94) ?hr ?_; (case hd => rfl); (case hg => rfl); (case hr => first | (go_simp; done) | (go_simp; rfl))
     intro gb218 hg w18 hbox hb
     have n0_ := zM (Kd.R_below (by (with_reducible repeat (first | apply zRa | apply zRn | apply zRd)); first | exact HO_4.out | (subst_vars; exact HO_4.out)) hb)
     have n1_ := zM (zNb (g := gb209) (o := .cells #[.slice (some ad215) l0_0.length c0_0, .slice (some ad214) l0_1.length c0_1] 46 (0, 0)) (by (with_reducible repeat (first | apply zNn | apply zNd | apply zNa)); exact BK209.out) hb)
     have n2_ := zM (below_step (by repeat (first | (with_reducible first | exact HB.out | apply zBa | apply zBn | apply zBd | refine zBs ?_ GE209.out) | exact HB.out)) hb)
     have n3_ := zM (hbox)
     have n4_ := zM ((by rw [hg]; exact (below_size (by repeat (first | (with_reducible first | exact HB.out | apply zBa | apply zBn | apply zBd | refine zBs ?_ GE209.out) | exact HB.out))) : w.heap.size ≤ gb218))
     have n5_ := zM ((by rw [hg]; exact (below_size (by repeat (first | (with_reducible first | exact HB.out | apply zBa | apply zBn | apply zBd | refine zBs ?_ GE209.out) | exact HB.out))) : w.heap.size ≤ gb218))
     have n6_ := zM ((by rw [hg]; exact Nat.ne_of_lt (by simpa using blk_lt BK209.out) : gb209 ≠ gb218))
     have n7_ := zM ((by rw [hg]; exact Nat.ne_of_gt (by simpa using blk_lt BK209.out) : gb218 ≠ gb209))
     clear HO_4
     clear BK209
     clear HB
     have HO_4 := n0_
     have BK209 := n1_
     have HB := n2_
     have BK218 := n3_
     have GW218 := n4_
     have GE218 := n5_
     have NB209_218 := n6_
     have NB218_209 := n7_
     clear n0_ n1_ n2_ n3_ n4_ n5_ n6_ n7_
     clear hb hbox hg
     refine hK.out _ _ ⟨(blk_cell BK209.out 0).trans rfl, (blk_cell BK209.out 1).trans rfl, ((HB.out.cell (zW w _ hw214_0)).trans hw214_0), ((HB.out.cell (zW w _ hw214_1)).trans hw214_1), ((HB.out.cell (zW w _ hw215_0)).trans hw215_0), ((HB.out.cell (zW w _ hw215_1)).trans hw215_1), ((HB.out.cell (zW w _ hw215_2)).trans hw215_2), ((HB.out.cell (zW w _ hw216_0)).trans hw216_0), ((HB.out.cell (zW w _ hw216_1)).trans hw216_1), ((HB.out.cell (zW w _ hw217_0)).trans hw217_0), ((HB.out.cell (zW w _ hw217_1)).trans hw217_1), ((HB.out.cell (zW w _ hw217_2)).trans hw217_2)⟩ (fun hHeld => ?_)
     clear hK K
     refine norm_ (a' := ?_) ?_ ?_
     rotate_left
     ·show Act.put _ (some 6) _ = _
      simp only [Act.put, zS1, zS2, zS3, i64_w, i32_w]
      rfl
     refine one_ (i := 21) (N := some 7) #[zt,zt,zt,zt,zt,zt,zt,zt,zt,zt,zt,zt,zt,zt,zt,zt,zt,zt,zt,zt,zt,zt,zf,zf] rfl rfl (one_of HT_.out (by kernel_rfl)) (by decide) (fun K hK => ?_)
     refine box_step ?hg (N := 7) ?hd (cs := #[.string (⟨#[]⟩ : ByteArray), .int .i64 0, .int .i64 0]) (t := 94) ?hr ?_; (case hd => rfl); (case hg => rfl); (case hr => first | (go_simp; done) | (go_simp; rfl))
     intro gb219 hg w19 hbox hb
     have n0_ := zM (Kd.R_below (by (with_reducible repeat (first | apply zRa | apply zRn | apply zRd)); first | exact HO_4.out | (subst_vars; exact HO_4.out)) hb)
     have n1_ := zM (zNb (g := gb209) (o := .cells #[.slice (some ad215) l0_0.length c0_0, .slice (some ad214) l0_1.length c0_1] 46 (0, 0)) (by (with_reducible repeat (first | apply zNn | apply zNd | apply zNa)); exact BK209.out) hb)
     have n2_ := zM (zNb (g := gb218) (o := .cells #[.string (⟨#[]⟩ : ByteArray), .int .i64 0, .int .i64 0] 94 (0, 0)) (by (with_reducible repeat (first | apply zNn | apply zNd | apply zNa)); exact BK218.out) hb)
     have n3_ := zM (below_step (by repeat (first | (with_reducible first | exact HB.out | apply zBa | apply zBn | apply zBd | refine zBs ?_ GE209.out | refine zBs ?_ GE218.out) | exact HB.out)) hb)
     have n4_ := zM (hbox)
     have n5_ := zM ((by rw [hg]; exact (below_size (by repeat (first | (with_reducible first | exact HB.out | apply zBa | apply zBn | apply zBd | refine zBs ?_ GE209.out | refine zBs ?_ GE218.out) | exact HB.out))) : w.heap.size ≤ gb219))
     have n6_ := zM ((by rw [hg]; exact (below_size (by repeat (first | (with_reducible first | exact HB.out | apply zBa | apply zBn | apply zBd | refine zBs ?_ GE209.out | refine zBs ?_ GE218.out) | exact HB.out))) : w.heap.size ≤ gb219))
     have n7_ := zM ((by rw [hg]; exact Nat.ne_of_lt (by simpa using blk_lt BK209.out) : gb209 ≠ gb219))
     have n8_ := zM ((by rw [hg]; exact Nat.ne_of_gt (by simpa using blk_lt BK209.out) : gb219 ≠ gb209))
     have n9_ := zM ((by rw [hg]; exact Nat.ne_of_lt (by simpa using blk_lt BK218.out) : gb218 ≠ gb219))
     have n10_ := zM ((by rw [hg]; exact Nat.ne_of_gt (by simpa using blk_lt BK218.out) : gb219 ≠ gb218))
     clear HO_4
     clear BK209
     clear BK218
     clear HB
     have HO_4 := n0_
     have BK209 := n1_
     have BK218 := n2_
     have HB := n3_
     have BK219 := n4_
     have GW219 := n5_
     have GE219 := n6_
     have NB209_219 := n7_
     have NB219_209 := n8_
     have NB218_219 := n9_
     have NB219_218 := n10_
     clear n0_ n1_ n2_ n3_ n4_ n5_ n6_ n7_ n8_ n9_ n10_
     clear hb hbox hg
     refine hK.out _ _ ⟨(blk_cell BK209.out 0).trans rfl, (blk_cell BK209.out 1).trans rfl, ((HB.out.cell (zW w _ hw214_0)).trans hw214_0), ((HB.out.cell (zW w _ hw214_1)).trans hw214_1), ((HB.out.cell (zW w _ hw215_0)).trans hw215_0), ((HB.out.cell (zW w _ hw215_1)).trans hw215_1), ((HB.out.cell (zW w _ hw215_2)).trans hw215_2), ((HB.out.cell (zW w _ hw216_0)).trans hw216_0), ((HB.out.cell (zW w _ hw216_1)).trans hw216_1), ((HB.out.cell (zW w _ hw217_0)).trans hw217_0), ((HB.out.cell (zW w _ hw217_1)).trans hw217_1), ((HB.out.cell (zW w _ hw217_2)).trans hw217_2)⟩ (fun hHeld => ?_)
     clear hK K
     refine norm_ (a' := ?_) ?_ ?_
     rotate_left
     ·show Act.put _ (some 7) _ = _
      simp only [Act.put, zS1, zS2, zS3, i64_w, i32_w]
      rfl
     exact norm_ (by simp only [putAll, Act.put, zS1, zS2, zS3]) (hCont (gb218, gb219) _ ⟨hHeld, (by (with_reducible repeat (first | apply zRa | apply zRn | apply zRd)); first | exact HO_4.out | (subst_vars; exact HO_4.out)), (by (with_reducible repeat (first | apply zNn | apply zNd | apply zNa)); exact BK209.out), (by (with_reducible repeat (first | apply zNn | apply zNd | apply zNa)); exact BK218.out), (by (with_reducible repeat (first | apply zNn | apply zNd | apply zNa)); exact BK219.out), GW218.out, GE218.out, NB209_218.out, NB218_209.out, NB219_218.out, NB218_219.out, GW219.out, GE219.out, NB209_219.out, NB219_209.out, (by repeat (first | (with_reducible first | exact HB.out | apply zBa | apply zBn | apply zBd | refine zBs ?_ GE209.out | refine zBs ?_ GE218.out | refine zBs ?_ GE219.out) | exact HB.out))⟩)
    ·skip
     refine box_step ?hg (N := 7) ?hd (cs := #[.string (⟨#[]⟩ : ByteArray), .int .i64 0, .int .i64 0]) (t := 94) ?hr ?_; (case hd => rfl); (case hg => rfl); (case hr => first | (go_simp; done) | (go_simp; rfl))
     intro gb219 hg w18 hbox hb
     have n0_ := zM (Kd.R_below (by (with_reducible repeat (first | apply zRa | apply zRn | apply zRd)); first | exact HO_4.out | (subst_vars; exact HO_4.out)) hb)
     have n1_ := zM (zNb (g := gb209) (o := .cells #[.slice (some ad215) l0_0.length c0_0, .slice (some ad214) l0_1.length c0_1] 46 (0, 0)) (by (with_reducible repeat (first | apply zNn | apply zNd | apply zNa)); exact BK209.out) hb)
     have n2_ := zM (below_step (by repeat (first | (with_reducible first | exact HB.out | apply zBa | apply zBn | apply zBd | refine zBs ?_ GE209.out) | exact HB.out)) hb)
     have n3_ := zM (hbox)
     have n4_ := zM ((by rw [hg]; exact (below_size (by repeat (first | (with_reducible first | exact HB.out | apply zBa | apply zBn | apply zBd | refine zBs ?_ GE209.out) | exact HB.out))) : w.heap.size ≤ gb219))
     have n5_ := zM ((by rw [hg]; exact (below_size (by repeat (first | (with_reducible first | exact HB.out | apply zBa | apply zBn | apply zBd | refine zBs ?_ GE209.out) | exact HB.out))) : w.heap.size ≤ gb219))
     have n6_ := zM ((by rw [hg]; exact Nat.ne_of_lt (by simpa using blk_lt BK209.out) : gb209 ≠ gb219))
     have n7_ := zM ((by rw [hg]; exact Nat.ne_of_gt (by simpa using blk_lt BK209.out) : gb219 ≠ gb209))
     clear HO_4
     clear BK209
     clear HB
     have HO_4 := n0_
     have BK209 := n1_
     have HB := n2_
     have BK219 := n3_
     have GW219 := n4_
     have GE219 := n5_
     have NB209_219 := n6_
     have NB219_209 := n7_
     clear n0_ n1_ n2_ n3_ n4_ n5_ n6_ n7_
     clear hb hbox hg
     refine hK.out _ _ ⟨(blk_cell BK209.out 0).trans rfl, (blk_cell BK209.out 1).trans rfl, ((HB.out.cell (zW w _ hw214_0)).trans hw214_0), ((HB.out.cell (zW w _ hw214_1)).trans hw214_1), ((HB.out.cell (zW w _ hw215_0)).trans hw215_0), ((HB.out.cell (zW w _ hw215_1)).trans hw215_1), ((HB.out.cell (zW w _ hw215_2)).trans hw215_2), ((HB.out.cell (zW w _ hw216_0)).trans hw216_0), ((HB.out.cell (zW w _ hw216_1)).trans hw216_1), ((HB.out.cell (zW w _ hw217_0)).trans hw217_0), ((HB.out.cell (zW w _ hw217_1)).trans hw217_1), ((HB.out.cell (zW w _ hw217_2)).trans hw217_2)⟩ (fun hHeld => ?_)
     clear hK K
     refine norm_ (a' := ?_) ?_ ?_
     rotate_left
     ·show Act.put _ (some 7) _ = _
      simp only [Act.put, zS1, zS2, zS3, i64_w, i32_w]
      rfl
     refine one_ (i := 20) (N := some 6) #[zt,zt,zt,zt,zt,zt,zt,zt,zt,zt,zt,zt,zt,zt,zt,zt,zt,zt,zt,zt,zt,zt,zf,zf] rfl rfl (one_of HT_.out (by kernel_rfl)) (by decide) (fun K hK => ?_)
     refine box_step ?hg (N := 6) ?hd (cs := #[.string (⟨#[]⟩ : ByteArray), .int .i64 0, .int .i64 0]) (t := 94) ?hr ?_; (case hd => rfl); (case hg => rfl); (case hr => first | (go_simp; done) | (go_simp; rfl))
     intro gb218 hg w19 hbox hb
     have n0_ := zM (Kd.R_below (by (with_reducible repeat (first | apply zRa | apply zRn | apply zRd)); first | exact HO_4.out | (subst_vars; exact HO_4.out)) hb)
     have n1_ := zM (zNb (g := gb209) (o := .cells #[.slice (some ad215) l0_0.length c0_0, .slice (some ad214) l0_1.length c0_1] 46 (0, 0)) (by (with_reducible repeat (first | apply zNn | apply zNd | apply zNa)); exact BK209.out) hb)
     have n2_ := zM (zNb (g := gb219) (o := .cells #[.string (⟨#[]⟩ : ByteArray), .int .i64 0, .int .i64 0] 94 (0, 0)) (by (with_reducible repeat (first | apply zNn | apply zNd | apply zNa)); exact BK219.out) hb)
     have n3_ := zM (below_step (by repeat (first | (with_reducible first | exact HB.out | apply zBa | apply zBn | apply zBd | refine zBs ?_ GE209.out | refine zBs ?_ GE219.out) | exact HB.out)) hb)
     have n4_ := zM (hbox)
     have n5_ := zM ((by rw [hg]; exact (below_size (by repeat (first | (with_reducible first | exact HB.out | apply zBa | apply zBn | apply zBd | refine zBs ?_ GE209.out | refine zBs ?_ GE219.out) | exact HB.out))) : w.heap.size ≤ gb218))
     have n6_ := zM ((by rw [hg]; exact (below_size (by repeat (first | (with_reducible first | exact HB.out | apply zBa | apply zBn | apply zBd | refine zBs ?_ GE209.out | refine zBs ?_ GE219.out) | exact HB.out))) : w.heap.size ≤ gb218))
     have n7_ := zM ((by rw [hg]; exact Nat.ne_of_lt (by simpa using blk_lt BK209.out) : gb209 ≠ gb218))
     have n8_ := zM ((by rw [hg]; exact Nat.ne_of_gt (by simpa using blk_lt BK209.out) : gb218 ≠ gb209))
     have n9_ := zM ((by rw [hg]; exact Nat.ne_of_lt (by simpa using blk_lt BK219.out) : gb219 ≠ gb218))
     have n10_ := zM ((by rw [hg]; exact Nat.ne_of_gt (by simpa using blk_lt BK219.out) : gb218 ≠ gb219))
     clear HO_4
     clear BK209
     clear BK219
     clear HB
     have HO_4 := n0_
     have BK209 := n1_
     have BK219 := n2_
     have HB := n3_
     have BK218 := n4_
     have GW218 := n5_
     have GE218 := n6_
     have NB209_218 := n7_
     have NB218_209 := n8_
     have NB219_218 := n9_
     have NB218_219 := n10_
     clear n0_ n1_ n2_ n3_ n4_ n5_ n6_ n7_ n8_ n9_ n10_
     clear hb hbox hg
     refine hK.out _ _ ⟨(blk_cell BK209.out 0).trans rfl, (blk_cell BK209.out 1).trans rfl, ((HB.out.cell (zW w _ hw214_0)).trans hw214_0), ((HB.out.cell (zW w _ hw214_1)).trans hw214_1), ((HB.out.cell (zW w _ hw215_0)).trans hw215_0), ((HB.out.cell (zW w _ hw215_1)).trans hw215_1), ((HB.out.cell (zW w _ hw215_2)).trans hw215_2), ((HB.out.cell (zW w _ hw216_0)).trans hw216_0), ((HB.out.cell (zW w _ hw216_1)).trans hw216_1), ((HB.out.cell (zW w _ hw217_0)).trans hw217_0), ((HB.out.cell (zW w _ hw217_1)).trans hw217_1), ((HB.out.cell (zW w _ hw217_2)).trans hw217_2)⟩ (fun hHeld => ?_)
     clear hK K
     refine norm_ (a' := ?_) ?_ ?_
     rotate_left
     ·show Act.put _ (some 6) _ = _
      simp only [Act.put, zS1, zS2, zS3, i64_w, i32_w]
      rfl
     exact norm_ (by simp only [putAll, Act.put, zS1, zS2, zS3]) (hCont (gb218, gb219) _ ⟨hHeld, (by (with_reducible repeat (first | apply zRa | apply zRn | apply zRd)); first | exact HO_4.out | (subst_vars; exact HO_4.out)), (by (with_reducible repeat (first | apply zNn | apply zNd | apply zNa)); exact BK209.out), (by (with_reducible repeat (first | apply zNn | apply zNd | apply zNa)); exact BK218.out), (by (with_reducible repeat (first | apply zNn | apply zNd | apply zNa)); exact BK219.out), GW218.out, GE218.out, NB209_218.out, NB218_209.out, NB219_218.out, NB218_219.out, GW219.out, GE219.out, NB209_219.out, NB219_209.out, (by repeat (first | (with_reducible first | exact HB.out | apply zBa | apply zBn | apply zBd | refine zBs ?_ GE209.out | refine zBs ?_ GE219.out | refine zBs ?_ GE218.out) | exact HB.out))⟩)
   rintro ⟨gb218, gb219⟩ w20 ⟨hS_, h0_, h1_, h2_, h3_, h4_, h5_, h6_, h7_, h8_, h9_, h10_, h11_, h12_, h13_, h14_⟩
   have n0_ : Aside0 (Kd.R k80 80 w20 w.heap.size (fun _ => True) u4 x4_1) := ⟨h0_⟩
   have n1_ : Aside0 (w20.heap[gb209]? = some (.cells #[.slice (some ad215) l0_0.length c0_0, .slice (some ad214) l0_1.length c0_1] 46 (0, 0))) := ⟨h1_⟩
   have n2_ : Aside0 (w20.heap[gb218]? = some (.cells #[.string (⟨#[]⟩ : ByteArray), .int .i64 0, .int .i64 0] 94 (0, 0))) := ⟨h2_⟩
   have n3_ : Aside0 (w20.heap[gb219]? = some (.cells #[.string (⟨#[]⟩ : ByteArray), .int .i64 0, .int .i64 0] 94 (0, 0))) := ⟨h3_⟩
   have n4_ : Aside0 (w.heap.size ≤ gb218) := ⟨h4_⟩
   have n5_ : Aside0 (w.heap.size ≤ gb218) := ⟨h5_⟩
   have n6_ : Aside0 (gb209 ≠ gb218) := ⟨h6_⟩
   have n7_ : Aside0 (gb218 ≠ gb209) := ⟨h7_⟩
   have n8_ : Aside0 (gb219 ≠ gb218) := ⟨h8_⟩
   have n9_ : Aside0 (gb218 ≠ gb219) := ⟨h9_⟩
   have n10_ : Aside0 (w.heap.size ≤ gb219) := ⟨h10_⟩
   have n11_ : Aside0 (w.heap.size ≤ gb219) := ⟨h11_⟩
   have n12_ : Aside0 (gb209 ≠ gb219) := ⟨h12_⟩
   have n13_ : Aside0 (gb219 ≠ gb209) := ⟨h13_⟩
   have n14_ : Aside0 (Below w.heap.size w w20) := ⟨h14_⟩
   clear HO_4
   clear BK209
   clear HB
   clear h0_ h1_ h2_ h3_ h4_ h5_ h6_ h7_ h8_ h9_ h10_ h11_ h12_ h13_ h14_
   have HO_4 := n0_
   have BK209 := n1_
   have BK218 := n2_
   have BK219 := n3_
   have GW218 := n4_
   have GE218 := n5_
   have NB209_218 := n6_
   have NB218_209 := n7_
   have NB219_218 := n8_
   have NB218_219 := n9_
   have GW219 := n10_
   have GE219 := n11_
   have NB209_219 := n12_
   have NB219_209 := n13_
   have HB := n14_
   clear n0_ n1_ n2_ n3_ n4_ n5_ n6_ n7_ n8_ n9_ n10_ n11_ n12_ n13_ n14_
   have hHeld : w20.cell? ⟨gb209, 0, none⟩ = some (.slice (some ad215) l0_0.length c0_0) ∧ w20.cell? ⟨gb209, 1, none⟩ = some (.slice (some ad214) l0_1.length c0_1) ∧ w20.cell? (ad214.add ((x5_1).toNat * 2)) = some (.int .i64 ((rd_T97 l0_1 x5_1).f0)) ∧ w20.cell? ⟨(ad214.add ((x5_1).toNat * 2)).block, (ad214.add ((x5_1).toNat * 2)).off + 1, none⟩ = some (.int .i64 ((rd_T97 l0_1 x5_1).f1)) ∧ w20.cell? (ad215.add ((((rd_T97 l0_1 x5_1).f0)).toNat * 3)) = some (.string ((rd_T94 l0_0 ((rd_T97 l0_1 x5_1).f0)).f0)) ∧ w20.cell? ⟨(ad215.add ((((rd_T97 l0_1 x5_1).f0)).toNat * 3)).block, (ad215.add ((((rd_T97 l0_1 x5_1).f0)).toNat * 3)).off + 1, none⟩ = some (.int .i64 ((rd_T94 l0_0 ((rd_T97 l0_1 x5_1).f0)).f1)) ∧ w20.cell? ⟨(ad215.add ((((rd_T97 l0_1 x5_1).f0)).toNat * 3)).block, (ad215.add ((((rd_T97 l0_1 x5_1).f0)).toNat * 3)).off + 2, none⟩ = some (.int .i64 ((rd_T94 l0_0 ((rd_T97 l0_1 x5_1).f0)).f2)) ∧ w20.cell? (ad214.add ((x5_1).toNat * 2)) = some (.int .i64 ((rd_T97 l0_1 x5_1).f0)) ∧ w20.cell? ⟨(ad214.add ((x5_1).toNat * 2)).block, (ad214.add ((x5_1).toNat * 2)).off + 1, none⟩ = some (.int .i64 ((rd_T97 l0_1 x5_1).f1)) ∧ w20.cell? (ad215.add ((((rd_T97 l0_1 x5_1).f1)).toNat * 3)) = some (.string ((rd_T94 l0_0 ((rd_T97 l0_1 x5_1).f1)).f0)) ∧ w20.cell? ⟨(ad215.add ((((rd_T97 l0_1 x5_1).f1)).toNat * 3)).block, (ad215.add ((((rd_T97 l0_1 x5_1).f1)).toNat * 3)).off + 1, none⟩ = some (.int .i64 ((rd_T94 l0_0 ((rd_T97 l0_1 x5_1).f1)).f1)) ∧ w20.cell? ⟨(ad215.add ((((rd_T97 l0_1 x5_1).f1)).toNat * 3)).block, (ad215.add ((((rd_T97 l0_1 x5_1).f1)).toNat * 3)).off + 2, none⟩ = some (.int .i64 ((rd_T94 l0_0 ((rd_T97 l0_1 x5_1).f1)).f2)) := hS_
   refine norm_ (a' := ?_) ?_ ?_
   rotate_left
   ·simp only [putAll, Act.put, zS1, zS2, zS3]
    rfl
   refine one_ (i := 22) (N := none) #[zt,zt,zt,zt,zt,zt,zt,zt,zt,zt,zt,zt,zt,zt,zt,zt,zt,zt,zt,zt,zt,zt,zt,zf] rfl rfl (one_of HT_.out (by kernel_rfl)) (by decide) (fun K hK => ?_)
   have hs21 : w20.cell? ⟨gb218, 0, none⟩ = some (.string (⟨#[]⟩ : ByteArray)) := (blk_cell BK218.out 0).trans rfl
   have hfs21 := blk_frozen BK218.out 0
   have hns21_0 := NB209_218.out
   have hns21_2 := NB219_218.out
   have hms21_0 := NB218_209.out
   have hms21_2 := NB218_219.out
   have hs22 : w20.cell? ⟨gb218, 1, none⟩ = some (.int .i64 0) := (blk_cell BK218.out 1).trans rfl
   have hfs22 := blk_frozen BK218.out 1
   have hns22_0 := NB209_218.out
   have hns22_2 := NB219_218.out
   have hms22_0 := NB218_209.out
   have hms22_2 := NB218_219.out
   have hs23 : w20.cell? ⟨gb218, 2, none⟩ = some (.int .i64 0) := (blk_cell BK218.out 2).trans rfl
   have hfs23 := blk_frozen BK218.out 2
   have hns23_0 := NB209_218.out
   have hns23_2 := NB219_218.out
   have hms23_0 := NB218_209.out
   have hms23_2 := NB218_219.out
   refine skip_ (w1 := ?_) (by rfl) rfl ?_ ?_
   rotate_left
   ·go_simp
    rfl
   refine hK.out _ _ ⟨((cell_far (p := ⟨gb218, _, none⟩) NB209_218.out _).trans (((cell_far (p := ⟨gb218, _, none⟩) NB209_218.out _).trans (((cell_far (p := ⟨gb218, _, none⟩) NB209_218.out _).trans (hHeld.1)))))), ((cell_far (p := ⟨gb218, _, none⟩) NB209_218.out _).trans (((cell_far (p := ⟨gb218, _, none⟩) NB209_218.out _).trans (((cell_far (p := ⟨gb218, _, none⟩) NB209_218.out _).trans (hHeld.2.1)))))), ((cell_far (p := ⟨gb218, _, none⟩) (by first | exact Nat.ne_of_lt (Nat.lt_of_lt_of_le (by have := zW _ _ hw214_0; first | rwa [add_block] at this | exact this) GW218.out) | (rw [add_block]; exact Nat.ne_of_lt (Nat.lt_of_lt_of_le (by have := zW _ _ hw214_0; first | rwa [add_block] at this | exact this) GW218.out)) | (show (Addr.add _ _).block ≠ _; rw [add_block]; exact Nat.ne_of_lt (Nat.lt_of_lt_of_le (by have := zW _ _ hw214_0; first | rwa [add_block] at this | exact this) GW218.out)) | (dsimp only; exact Nat.ne_of_lt (Nat.lt_of_lt_of_le (by have := zW _ _ hw214_0; first | rwa [add_block] at this | exact this) GW218.out))) _).trans (((cell_far (p := ⟨gb218, _, none⟩) (by first | exact Nat.ne_of_lt (Nat.lt_of_lt_of_le (by have := zW _ _ hw214_0; first | rwa [add_block] at this | exact this) GW218.out) | (rw [add_block]; exact Nat.ne_of_lt (Nat.lt_of_lt_of_le (by have := zW _ _ hw214_0; first | rwa [add_block] at this | exact this) GW218.out)) | (show (Addr.add _ _).block ≠ _; rw [add_block]; exact Nat.ne_of_lt (Nat.lt_of_lt_of_le (by have := zW _ _ hw214_0; first | rwa [add_block] at this | exact this) GW218.out)) | (dsimp only; exact Nat.ne_of_lt (Nat.lt_of_lt_of_le (by have := zW _ _ hw214_0; first | rwa [add_block] at this | exact this) GW218.out))) _).trans (((cell_far (p := ⟨gb218, _, none⟩) (by first | exact Nat.ne_of_lt (Nat.lt_of_lt_of_le (by have := zW _ _ hw214_0; first | rwa [add_block] at this | exact this) GW218.out) | (rw [add_block]; exact Nat.ne_of_lt (Nat.lt_of_lt_of_le (by have := zW _ _ hw214_0; first | rwa [add_block] at this | exact this) GW218.out)) | (show (Addr.add _ _).block ≠ _; rw [add_block]; exact Nat.ne_of_lt (Nat.lt_of_lt_of_le (by have := zW _ _ hw214_0; first | rwa [add_block] at this | exact this) GW218.out)) | (dsimp only; exact Nat.ne_of_lt (Nat.lt_of_lt_of_le (by have := zW _ _ hw214_0; first | rwa [add_block] at this | exact this) GW218.out))) _).trans (hHeld.2.2.1)))))), ((cell_far (p := ⟨gb218, _, none⟩) (by first | exact Nat.ne_of_lt (Nat.lt_of_lt_of_le (by have := zW _ _ hw214_1; first | rwa [add_block] at this | exact this) GW218.out) | (rw [add_block]; exact Nat.ne_of_lt (Nat.lt_of_lt_of_le (by have := zW _ _ hw214_1; first | rwa [add_block] at this | exact this) GW218.out)) | (show (Addr.add _ _).block ≠ _; rw [add_block]; exact Nat.ne_of_lt (Nat.lt_of_lt_of_le (by have := zW _ _ hw214_1; first | rwa [add_block] at this | exact this) GW218.out)) | (dsimp only; exact Nat.ne_of_lt (Nat.lt_of_lt_of_le (by have := zW _ _ hw214_1; first | rwa [add_block] at this | exact this) GW218.out))) _).trans (((cell_far (p := ⟨gb218, _, none⟩) (by first | exact Nat.ne_of_lt (Nat.lt_of_lt_of_le (by have := zW _ _ hw214_1; first | rwa [add_block] at this | exact this) GW218.out) | (rw [add_block]; exact Nat.ne_of_lt (Nat.lt_of_lt_of_le (by have := zW _ _ hw214_1; first | rwa [add_block] at this | exact this) GW218.out)) | (show (Addr.add _ _).block ≠ _; rw [add_block]; exact Nat.ne_of_lt (Nat.lt_of_lt_of_le (by have := zW _ _ hw214_1; first | rwa [add_block] at this | exact this) GW218.out)) | (dsimp only; exact Nat.ne_of_lt (Nat.lt_of_lt_of_le (by have := zW _ _ hw214_1; first | rwa [add_block] at this | exact this) GW218.out))) _).trans (((cell_far (p := ⟨gb218, _, none⟩) (by first | exact Nat.ne_of_lt (Nat.lt_of_lt_of_le (by have := zW _ _ hw214_1; first | rwa [add_block] at this | exact this) GW218.out) | (rw [add_block]; exact Nat.ne_of_lt (Nat.lt_of_lt_of_le (by have := zW _ _ hw214_1; first | rwa [add_block] at this | exact this) GW218.out)) | (show (Addr.add _ _).block ≠ _; rw [add_block]; exact Nat.ne_of_lt (Nat.lt_of_lt_of_le (by have := zW _ _ hw214_1; first | rwa [add_block] at this | exact this) GW218.out)) | (dsimp only; exact Nat.ne_of_lt (Nat.lt_of_lt_of_le (by have := zW _ _ hw214_1; first | rwa [add_block] at this | exact this) GW218.out))) _).trans (hHeld.2.2.2.1)))))), ((cell_far (p := ⟨gb218, _, none⟩) (by first | exact Nat.ne_of_lt (Nat.lt_of_lt_of_le (by have := zW _ _ hw215_0; first | rwa [add_block] at this | exact this) GW218.out) | (rw [add_block]; exact Nat.ne_of_lt (Nat.lt_of_lt_of_le (by have := zW _ _ hw215_0; first | rwa [add_block] at this | exact this) GW218.out)) | (show (Addr.add _ _).block ≠ _; rw [add_block]; exact Nat.ne_of_lt (Nat.lt_of_lt_of_le (by have := zW _ _ hw215_0; first | rwa [add_block] at this | exact this) GW218.out)) | (dsimp only; exact Nat.ne_of_lt (Nat.lt_of_lt_of_le (by have := zW _ _ hw215_0; first | rwa [add_block] at this | exact this) GW218.out))) _).trans (((cell_far (p := ⟨gb218, _, none⟩) (by first | exact Nat.ne_of_lt (Nat.lt_of_lt_of_le (by have := zW _ _ hw215_0; first | rwa [add_block] at this | exact this) GW218.out) | (rw [add_block]; exact Nat.ne_of_lt (Nat.lt_of_lt_of_le (by have := zW _ _ hw215_0; first | rwa [add_block] at this | exact this) GW218.out)) | (show (Addr.add _ _).block ≠ _; rw [add_block]; exact Nat.ne_of_lt (Nat.lt_of_lt_of_le (by have := zW _ _ hw215_0; first | rwa [add_block] at this | exact this) GW218.out)) | (dsimp only; exact Nat.ne_of_lt (Nat.lt_of_lt_of_le (by have := zW _ _ hw215_0; first | rwa [add_block] at this | exact this) GW218.out))) _).trans (((cell_far (p := ⟨gb218, _, none⟩) (by first | exact Nat.ne_of_lt (Nat.lt_of_lt_of_le (by have := zW _ _ hw215_0; first | rwa [add_block] at this | exact this) GW218.out) | (rw [add_block]; exact Nat.ne_of_lt (Nat.lt_of_lt_of_le (by have := zW _ _ hw215_0; first | rwa [add_block] at this | exact this) GW218.out)) | (show (Addr.add _ _).block ≠ _; rw [add_block]; exact Nat.ne_of_lt (Nat.lt_of_lt_of_le (by have := zW _ _ hw215_0; first | rwa [add_block] at this | exact this) GW218.out)) | (dsimp only; exact Nat.ne_of_lt (Nat.lt_of_lt_of_le (by have := zW _ _ hw215_0; first | rwa [add_block] at this | exact this) GW218.out))) _).trans (hHeld.2.2.2.2.1)))))), ((cell_far (p := ⟨gb218, _, none⟩) (by first | exact Nat.ne_of_lt (Nat.lt_of_lt_of_le (by have := zW _ _ hw215_1; first | rwa [add_block] at this | exact this) GW218.out) | (rw [add_block]; exact Nat.ne_of_lt (Nat.lt_of_lt_of_le (by have := zW _ _ hw215_1; first | rwa [add_block] at this | exact this) GW218.out)) | (show (Addr.add _ _).block ≠ _; rw [add_block]; exact Nat.ne_of_lt (Nat.lt_of_lt_of_le (by have := zW _ _ hw215_1; first | rwa [add_block] at this | exact this) GW218.out)) | (dsimp only; exact Nat.ne_of_lt (Nat.lt_of_lt_of_le (by have := zW _ _ hw215_1; first | rwa [add_block] at this | exact this) GW218.out))) _).trans (((cell_far (p := ⟨gb218, _, none⟩) (by first | exact Nat.ne_of_lt (Nat.lt_of_lt_of_le (by have := zW _ _ hw215_1; first | rwa [add_block] at this | exact this) GW218.out) | (rw [add_block]; exact Nat.ne_of_lt (Nat.lt_of_lt_of_le (by have := zW _ _ hw215_1; first | rwa [add_block] at this | exact this) GW218.out)) | (show (Addr.add _ _).block ≠ _; rw [add_block]; exact Nat.ne_of_lt (Nat.lt_of_lt_of_le (by have := zW _ _ hw215_1; first | rwa [add_block] at this | exact this) GW218.out)) | (dsimp only; exact Nat.ne_of_lt (Nat.lt_of_lt_of_le (by have := zW _ _ hw215_1; first | rwa [add_block] at this | exact this) GW218.out))) _).trans (((cell_far (p := ⟨gb218, _, none⟩) (by first | exact Nat.ne_of_lt (Nat.lt_of_lt_of_le (by have := zW _ _ hw215_1; first | rwa [add_block] at this | exact this) GW218.out) | (rw [add_block]; exact Nat.ne_of_lt (Nat.lt_of_lt_of_le (by have := zW _ _ hw215_1; first | rwa [add_block] at this | exact this) GW218.out)) | (show (Addr.add _ _).block ≠ _; rw [add_block]; exact Nat.ne_of_lt (Nat.lt_of_lt_of_le (by have := zW _ _ hw215_1; first | rwa [add_block] at this | exact this) GW218.out)) | (dsimp only; exact Nat.ne_of_lt (Nat.lt_of_lt_of_le (by have := zW _ _ hw215_1; first | rwa [add_block] at this | exact this) GW218.out))) _).trans (hHeld.2.2.2.2.2.1)))))), ((cell_far (p := ⟨gb218, _, none⟩) (by first | exact Nat.ne_of_lt (Nat.lt_of_lt_of_le (by have := zW _ _ hw215_2; first | rwa [add_block] at this | exact this) GW218.out) | (rw [add_block]; exact Nat.ne_of_lt (Nat.lt_of_lt_of_le (by have := zW _ _ hw215_2; first | rwa [add_block] at this | exact this) GW218.out)) | (show (Addr.add _ _).block ≠ _; rw [add_block]; exact Nat.ne_of_lt (Nat.lt_of_lt_of_le (by have := zW _ _ hw215_2; first | rwa [add_block] at this | exact this) GW218.out)) | (dsimp only; exact Nat.ne_of_lt (Nat.lt_of_lt_of_le (by have := zW _ _ hw215_2; first | rwa [add_block] at this | exact this) GW218.out))) _).trans (((cell_far (p := ⟨gb218, _, none⟩) (by first | exact Nat.ne_of_lt (Nat.lt_of_lt_of_le (by have := zW _ _ hw215_2; first | rwa [add_block] at this | exact this) GW218.out) | (rw [add_block]; exact Nat.ne_of_lt (Nat.lt_of_lt_of_le (by have := zW _ _ hw215_2; first | rwa [add_block] at this | exact this) GW218.out)) | (show (Addr.add _ _).block ≠ _; rw [add_block]; exact Nat.ne_of_lt (Nat.lt_of_lt_of_le (by have := zW _ _ hw215_2; first | rwa [add_block] at this | exact this) GW218.out)) | (dsimp only; exact Nat.ne_of_lt (Nat.lt_of_lt_of_le (by have := zW _ _ hw215_2; first | rwa [add_block] at this | exact this) GW218.out))) _).trans (((cell_far (p := ⟨gb218, _, none⟩) (by first | exact Nat.ne_of_lt (Nat.lt_of_lt_of_le (by have := zW _ _ hw215_2; first | rwa [add_block] at this | exact this) GW218.out) | (rw [add_block]; exact Nat.ne_of_lt (Nat.lt_of_lt_of_le (by have := zW _ _ hw215_2; first | rwa [add_block] at this | exact this) GW218.out)) | (show (Addr.add _ _).block ≠ _; rw [add_block]; exact Nat.ne_of_lt (Nat.lt_of_lt_of_le (by have := zW _ _ hw215_2; first | rwa [add_block] at this | exact this) GW218.out)) | (dsimp only; exact Nat.ne_of_lt (Nat.lt_of_lt_of_le (by have := zW _ _ hw215_2; first | rwa [add_block] at this | exact this) GW218.out))) _).trans (hHeld.2.2.2.2.2.2.1)))))), ((cell_far (p := ⟨gb218, _, none⟩) (by first | exact Nat.ne_of_lt (Nat.lt_of_lt_of_le (by have := zW _ _ hw216_0; first | rwa [add_block] at this | exact this) GW218.out) | (rw [add_block]; exact Nat.ne_of_lt (Nat.lt_of_lt_of_le (by have := zW _ _ hw216_0; first | rwa [add_block] at this | exact this) GW218.out)) | (show (Addr.add _ _).block ≠ _; rw [add_block]; exact Nat.ne_of_lt (Nat.lt_of_lt_of_le (by have := zW _ _ hw216_0; first | rwa [add_block] at this | exact this) GW218.out)) | (dsimp only; exact Nat.ne_of_lt (Nat.lt_of_lt_of_le (by have := zW _ _ hw216_0; first | rwa [add_block] at this | exact this) GW218.out))) _).trans (((cell_far (p := ⟨gb218, _, none⟩) (by first | exact Nat.ne_of_lt (Nat.lt_of_lt_of_le (by have := zW _ _ hw216_0; first | rwa [add_block] at this | exact this) GW218.out) | (rw [add_block]; exact Nat.ne_of_lt (Nat.lt_of_lt_of_le (by have := zW _ _ hw216_0; first | rwa [add_block] at this | exact this) GW218.out)) | (show (Addr.add _ _).block ≠ _; rw [add_block]; exact Nat.ne_of_lt (Nat.lt_of_lt_of_le (by have := zW _ _ hw216_0; first | rwa [add_block] at this | exact this) GW218.out)) | (dsimp only; exact Nat.ne_of_lt (Nat.lt_of_lt_of_le (by have := zW _ _ hw216_0; first | rwa [add_block] at this | exact this) GW218.out))) _).trans (((cell_far (p := ⟨gb218, _, none⟩) (by first | exact Nat.ne_of_lt (Nat.lt_of_lt_of_le (by have := zW _ _ hw216_0; first | rwa [add_block] at this | exact this) GW218.out) | (rw [add_block]; exact Nat.ne_of_lt (Nat.lt_of_lt_of_le (by have := zW _ _ hw216_0; first | rwa [add_block] at this | exact this) GW218.out)) | (show (Addr.add _ _).block ≠ _; rw [add_block]; exact Nat.ne_of_lt (Nat.lt_of_lt_of_le (by have := zW _ _ hw216_0; first | rwa [add_block] at this | exact this) GW218.out)) | (dsimp only; exact Nat.ne_of_lt (Nat.lt_of_lt_of_le (by have := zW _ _ hw216_0; first | rwa [add_block] at this | exact this) GW218.out))) _).trans (hHeld.2.2.2.2.2.2.2.1)))))), ((cell_far (p := ⟨gb218, _, none⟩) (by first | exact Nat.ne_of_lt (Nat.lt_of_lt_of_le (by have := zW _ _ hw216_1; first | rwa [add_block] at this | exact this) GW218.out) | (rw [add_block]; exact Nat.ne_of_lt (Nat.lt_of_lt_of_le (by have := zW _ _ hw216_1; first | rwa [add_block] at this | exact this) GW218.out)) | (show (Addr.add _ _).block ≠ _; rw [add_block]; exact Nat.ne_of_lt (Nat.lt_of_lt_of_le (by have := zW _ _ hw216_1; first | rwa [add_block] at this | exact this) GW218.out)) | (dsimp only; exact Nat.ne_of_lt (Nat.lt_of_lt_of_le (by have := zW _ _ hw216_1; first | rwa [add_block] at this | exact this) GW218.out))) _).trans (((cell_far (p := ⟨gb218, _, none⟩) (by first | exact Nat.ne_of_lt (Nat.lt_of_lt_of_le (by have := zW _ _ hw216_1; first | rwa [add_block] at this | exact this) GW218.out) | (rw [add_block]; exact Nat.ne_of_lt (Nat.lt_of_lt_of_le (by have := zW _ _ hw216_1; first | rwa [add_block] at this | exact this) GW218.out)) | (show (Addr.add _ _).block ≠ _; rw [add_block]; exact Nat.ne_of_lt (Nat.lt_of_lt_of_le (by have := zW _ _ hw216_1; first | rwa [add_block] at this | exact this) GW218.out)) | (dsimp only; exact Nat.ne_of_lt (Nat.lt_of_lt_of_le (by have := zW _ _ hw216_1; first | rwa [add_block] at this | exact this) GW218.out))) _).trans (((cell_far (p := ⟨gb218, _, none⟩) (by first | exact Nat.ne_of_lt (Nat.lt_of_lt_of_le (by have := zW _ _ hw216_1; first | rwa [add_block] at this | exact this) GW218.out) | (rw [add_block]; exact Nat.ne_of_lt (Nat.lt_of_lt_of_le (by have := zW _ _ hw216_1; first | rwa [add_block] at this | exact this) GW218.out)) | (show (Addr.add _ _).block ≠ _; rw [add_block]; exact Nat.ne_of_lt (Nat.lt_of_lt_of_le (by have := zW _ _ hw216_1; first | rwa [add_block] at this | exact this) GW218.out)) | (dsimp only; exact Nat.ne_of_lt (Nat.lt_of_lt_of_le (by have := zW _ _ hw216_1; first | rwa [add_block] at this | exact this) GW218.out))) _).trans (hHeld.2.2.2.2.2.2.2.2.1)))))), ((cell_far (p := ⟨gb218, _, none⟩) (by first | exact Nat.ne_of_lt (Nat.lt_of_lt_of_le (by have := zW _ _ hw217_0; first | rwa [add_block] at this | exact this) GW218.out) | (rw [add_block]; exact Nat.ne_of_lt (Nat.lt_of_lt_of_le (by have := zW _ _ hw217_0; first | rwa [add_block] at this | exact this) GW218.out)) | (show (Addr.add _ _).block ≠ _; rw [add_block]; exact Nat.ne_of_lt (Nat.lt_of_lt_of_le (by have := zW _ _ hw217_0; first | rwa [add_block] at this | exact this) GW218.out)) | (dsimp only; exact Nat.ne_of_lt (Nat.lt_of_lt_of_le (by have := zW _ _ hw217_0; first | rwa [add_block] at this | exact this) GW218.out))) _).trans (((cell_far (p := ⟨gb218, _, none⟩) (by first | exact Nat.ne_of_lt (Nat.lt_of_lt_of_le (by have := zW _ _ hw217_0; first | rwa [add_block] at this | exact this) GW218.out) | (rw [add_block]; exact Nat.ne_of_lt (Nat.lt_of_lt_of_le (by have := zW _ _ hw217_0; first | rwa [add_block] at this | exact this) GW218.out)) | (show (Addr.add _ _).block ≠ _; rw [add_block]; exact Nat.ne_of_lt (Nat.lt_of_lt_of_le (by have := zW _ _ hw217_0; first | rwa [add_block] at this | exact this) GW218.out)) | (dsimp only; exact Nat.ne_of_lt (Nat.lt_of_lt_of_le (by have := zW _ _ hw217_0; first | rwa [add_block] at this | exact this) GW218.out))) _).trans (((cell_far (p := ⟨gb218, _, none⟩) (by first | exact Nat.ne_of_lt (Nat.lt_of_lt_of_le (by have := zW _ _ hw217_0; first | rwa [add_block] at this | exact this) GW218.out) | (rw [add_block]; exact Nat.ne_of_lt (Nat.lt_of_lt_of_le (by have := zW _ _ hw217_0; first | rwa [add_block] at this | exact this) GW218.out)) | (show (Addr.add _ _).block ≠ _; rw [add_block]; exact Nat.ne_of_lt (Nat.lt_of_lt_of_le (by have := zW _ _ hw217_0; first | rwa [add_block] at this | exact this) GW218.out)) | (dsimp only; exact Nat.ne_of_lt (Nat.lt_of_lt_of_le (by have := zW _ _ hw217_0; first | rwa [add_block] at this | exact this) GW218.out))) _).trans (hHeld.2.2.2.2.2.2.2.2.2.1)))))), ((cell_far (p := ⟨gb218, _, none⟩) (by first | exact Nat.ne_of_lt (Nat.lt_of_lt_of_le (by have := zW _ _ hw217_1; first | rwa [add_block] at this | exact this) GW218.out) | (rw [add_block]; exact Nat.ne_of_lt (Nat.lt_of_lt_of_le (by have := zW _ _ hw217_1; first | rwa [add_block] at this | exact this) GW218.out)) | (show (Addr.add _ _).block ≠ _; rw [add_block]; exact Nat.ne_of_lt (Nat.lt_of_lt_of_le (by have := zW _ _ hw217_1; first | rwa [add_block] at this | exact this) GW218.out)) | (dsimp only; exact Nat.ne_of_lt (Nat.lt_of_lt_of_le (by have := zW _ _ hw217_1; first | rwa [add_block] at this | exact this) GW218.out))) _).trans (((cell_far (p := ⟨gb218, _, none⟩) (by first | exact Nat.ne_of_lt (Nat.lt_of_lt_of_le (by have := zW _ _ hw217_1; first | rwa [add_block] at this | exact this) GW218.out) | (rw [add_block]; exact Nat.ne_of_lt (Nat.lt_of_lt_of_le (by have := zW _ _ hw217_1; first | rwa [add_block] at this | exact this) GW218.out)) | (show (Addr.add _ _).block ≠ _; rw [add_block]; exact Nat.ne_of_lt (Nat.lt_of_lt_of_le (by have := zW _ _ hw217_1; first | rwa [add_block] at this | exact this) GW218.out)) | (dsimp only; exact Nat.ne_of_lt (Nat.lt_of_lt_of_le (by have := zW _ _ hw217_1; first | rwa [add_block] at this | exact this) GW218.out))) _).trans (((cell_far (p := ⟨gb218, _, none⟩) (by first | exact Nat.ne_of_lt (Nat.lt_of_lt_of_le (by have := zW _ _ hw217_1; first | rwa [add_block] at this | exact this) GW218.out) | (rw [add_block]; exact Nat.ne_of_lt (Nat.lt_of_lt_of_le (by have := zW _ _ hw217_1; first | rwa [add_block] at this | exact this) GW218.out)) | (show (Addr.add _ _).block ≠ _; rw [add_block]; exact Nat.ne_of_lt (Nat.lt_of_lt_of_le (by have := zW _ _ hw217_1; first | rwa [add_block] at this | exact this) GW218.out)) | (dsimp only; exact Nat.ne_of_lt (Nat.lt_of_lt_of_le (by have := zW _ _ hw217_1; first | rwa [add_block] at this | exact this) GW218.out))) _).trans (hHeld.2.2.2.2.2.2.2.2.2.2.1)))))), ((cell_far (p := ⟨gb218, _, none⟩) (by first | exact Nat.ne_of_lt (Nat.lt_of_lt_of_le (by have := zW _ _ hw217_2; first | rwa [add_block] at this | exact this) GW218.out) | (rw [add_block]; exact Nat.ne_of_lt (Nat.lt_of_lt_of_le (by have := zW _ _ hw217_2; first | rwa [add_block] at this | exact this) GW218.out)) | (show (Addr.add _ _).block ≠ _; rw [add_block]; exact Nat.ne_of_lt (Nat.lt_of_lt_of_le (by have := zW _ _ hw217_2; first | rwa [add_block] at this | exact this) GW218.out)) | (dsimp only; exact Nat.ne_of_lt (Nat.lt_of_lt_of_le (by have := zW _ _ hw217_2; first | rwa [add_block] at this | exact this) GW218.out))) _).trans (((cell_far (p := ⟨gb218, _, none⟩) (by first | exact Nat.ne_of_lt (Nat.lt_of_lt_of_le (by have := zW _ _ hw217_2; first | rwa [add_block] at this | exact this) GW218.out) | (rw [add_block]; exact Nat.ne_of_lt (Nat.lt_of_lt_of_le (by have := zW _ _ hw217_2; first | rwa [add_block] at this | exact this) GW218.out)) | (show (Addr.add _ _).block ≠ _; rw [add_block]; exact Nat.ne_of_lt (Nat.lt_of_lt_of_le (by have := zW _ _ hw217_2; first | rwa [add_block] at this | exact this) GW218.out)) | (dsimp only; exact Nat.ne_of_lt (Nat.lt_of_lt_of_le (by have := zW _ _ hw217_2; first | rwa [add_block] at this | exact this) GW218.out))) _).trans (((cell_far (p := ⟨gb218, _, none⟩) (by first | exact Nat.ne_of_lt (Nat.lt_of_lt_of_le (by have := zW _ _ hw217_2; first | rwa [add_block] at this | exact this) GW218.out) | (rw [add_block]; exact Nat.ne_of_lt (Nat.lt_of_lt_of_le (by have := zW _ _ hw217_2; first | rwa [add_block] at this | exact this) GW218.out)) | (show (Addr.add _ _).block ≠ _; rw [add_block]; exact Nat.ne_of_lt (Nat.lt_of_lt_of_le (by have := zW _ _ hw217_2; first | rwa [add_block] at this | exact this) GW218.out)) | (dsimp only; exact Nat.ne_of_lt (Nat.lt_of_lt_of_le (by have := zW _ _ hw217_2; first | rwa [add_block] at this | exact this) GW218.out))) _).trans (hHeld.2.2.2.2.2.2.2.2.2.2.2))))))⟩ (fun hHeld => ?_)
   clear hK K
   refine one_ (i := 23) (N := none) #[zt,zt,zt,zt,zt,zt,zt,zt,zt,zt,zt,zt,zt,zt,zt,zt,zt,zt,zt,zt,zt,zt,zt,zt] rfl rfl (one_of HT_.out (by kernel_rfl)) (by decide) (fun K hK => ?_)
   have hs24 : w20.cell? ⟨gb219, 0, none⟩ = some (.string (⟨#[]⟩ : ByteArray)) := (blk_cell BK219.out 0).trans rfl
   have hfs24 := blk_frozen BK219.out 0
   have hns24_0 := NB209_219.out
   have hns24_1 := NB218_219.out
   have hms24_0 := NB219_209.out
   have hms24_1 := NB219_218.out
   have hs25 : w20.cell? ⟨gb219, 1, none⟩ = some (.int .i64 0) := (blk_cell BK219.out 1).trans rfl
   have hfs25 := blk_frozen BK219.out 1
   have hns25_0 := NB209_219.out
   have hns25_1 := NB218_219.out
   have hms25_0 := NB219_209.out
   have hms25_1 := NB219_218.out
   have hs26 : w20.cell? ⟨gb219, 2, none⟩ = some (.int .i64 0) := (blk_cell BK219.out 2).trans rfl
   have hfs26 := blk_frozen BK219.out 2
   have hns26_0 := NB209_219.out
   have hns26_1 := NB218_219.out
   have hms26_0 := NB219_209.out
   have hms26_1 := NB219_218.out
   refine skip_ (w1 := ?_) (by rfl) rfl ?_ ?_
   rotate_left
   ·go_simp
    rfl
   refine hK.out _ _ ⟨((cell_far (p := ⟨gb219, _, none⟩) NB209_219.out _).trans (((cell_far (p := ⟨gb219, _, none⟩) NB209_219.out _).trans (((cell_far (p := ⟨gb219, _, none⟩) NB209_219.out _).trans (hHeld.1)))))), ((cell_far (p := ⟨gb219, _, none⟩) NB209_219.out _).trans (((cell_far (p := ⟨gb219, _, none⟩) NB209_219.out _).trans (((cell_far (p := ⟨gb219, _, none⟩) NB209_219.out _).trans (hHeld.2.1)))))), ((cell_far (p := ⟨gb219, _, none⟩) (by first | exact Nat.ne_of_lt (Nat.lt_of_lt_of_le (by have := zW _ _ hw214_0; first | rwa [add_block] at this | exact this) GW219.out) | (rw [add_block]; exact Nat.ne_of_lt (Nat.lt_of_lt_of_le (by have := zW _ _ hw214_0; first | rwa [add_block] at this | exact this) GW219.out)) | (show (Addr.add _ _).block ≠ _; rw [add_block]; exact Nat.ne_of_lt (Nat.lt_of_lt_of_le (by have := zW _ _ hw214_0; first | rwa [add_block] at this | exact this) GW219.out)) | (dsimp only; exact Nat.ne_of_lt (Nat.lt_of_lt_of_le (by have := zW _ _ hw214_0; first | rwa [add_block] at this | exact this) GW219.out))) _).trans (((cell_far (p := ⟨gb219, _, none⟩) (by first | exact Nat.ne_of_lt (Nat.lt_of_lt_of_le (by have := zW _ _ hw214_0; first | rwa [add_block] at this | exact this) GW219.out) | (rw [add_block]; exact Nat.ne_of_lt (Nat.lt_of_lt_of_le (by have := zW _ _ hw214_0; first | rwa [add_block] at this | exact this) GW219.out)) | (show (Addr.add _ _).block ≠ _; rw [add_block]; exact Nat.ne_of_lt (Nat.lt_of_lt_of_le (by have := zW _ _ hw214_0; first | rwa [add_block] at this | exact this) GW219.out)) | (dsimp only; exact Nat.ne_of_lt (Nat.lt_of_lt_of_le (by have := zW _ _ hw214_0; first | rwa [add_block] at this | exact this) GW219.out))) _).trans (((cell_far (p := ⟨gb219, _, none⟩) (by first | exact Nat.ne_of_lt (Nat.lt_of_lt_of_le (by have := zW _ _ hw214_0; first | rwa [add_block] at this | exact this) GW219.out) | (rw [add_block]; exact Nat.ne_of_lt (Nat.lt_of_lt_of_le (by have := zW _ _ hw214_0; first | rwa [add_block] at this | exact this) GW219.out)) | (show (Addr.add _ _).block ≠ _; rw [add_block]; exact Nat.ne_of_lt (Nat.lt_of_lt_of_le (by have := zW _ _ hw214_0; first | rwa [add_block] at this | exact this) GW219.out)) | (dsimp only; exact Nat.ne_of_lt (Nat.lt_of_lt_of_le (by have := zW _ _ hw214_0; first | rwa [add_block] at this | exact this) GW219.out))) _).trans (hHeld.2.2.1)))))), ((cell_far (p := ⟨gb219, _, none⟩) (by first | exact Nat.ne_of_lt (Nat.lt_of_lt_of_le (by have := zW _ _ hw214_1; first | rwa [add_block] at this | exact this) GW219.out) | (rw [add_block]; exact Nat.ne_of_lt (Nat.lt_of_lt_of_le (by have := zW _ _ hw214_1; first | rwa [add_block] at this | exact this) GW219.out)) | (show (Addr.add _ _).block ≠ _; rw [add_block]; exact Nat.ne_of_lt (Nat.lt_of_lt_of_le (by have := zW _ _ hw214_1; first | rwa [add_block] at this | exact this) GW219.out)) | (dsimp only; exact Nat.ne_of_lt (Nat.lt_of_lt_of_le (by have := zW _ _ hw214_1; first | rwa [add_block] at this | exact this) GW219.out))) _).trans (((cell_far (p := ⟨gb219, _, none⟩) (by first | exact Nat.ne_of_lt (Nat.lt_of_lt_of_le (by have := zW _ _ hw214_1; first | rwa [add_block] at this | exact this) GW219.out) | (rw [add_block]; exact Nat.ne_of_lt (Nat.lt_of_lt_of_le (by have := zW _ _ hw214_1; first | rwa [add_block] at this | exact this) GW219.out)) | (show (Addr.add _ _).block ≠ _; rw [add_block]; exact Nat.ne_of_lt (Nat.lt_of_lt_of_le (by have := zW _ _ hw214_1; first | rwa [add_block] at this | exact this) GW219.out)) | (dsimp only; exact Nat.ne_of_lt (Nat.lt_of_lt_of_le (by have := zW _ _ hw214_1; first | rwa [add_block] at this | exact this) GW219.out))) _).trans (((cell_far (p := ⟨gb219, _, none⟩) (by first | exact Nat.ne_of_lt (Nat.lt_of_lt_of_le (by have := zW _ _ hw214_1; first | rwa [add_block] at this | exact this) GW219.out) | (rw [add_block]; exact Nat.ne_of_lt (Nat.lt_of_lt_of_le (by have := zW _ _ hw214_1; first | rwa [add_block] at this | exact this) GW219.out)) | (show (Addr.add _ _).block ≠ _; rw [add_block]; exact Nat.ne_of_lt (Nat.lt_of_lt_of_le (by have := zW _ _ hw214_1; first | rwa [add_block] at this | exact this) GW219.out)) | (dsimp only; exact Nat.ne_of_lt (Nat.lt_of_lt_of_le (by have := zW _ _ hw214_1; first | rwa [add_block] at this | exact this) GW219.out))) _).trans (hHeld.2.2.2.1)))))), ((cell_far (p := ⟨gb219, _, none⟩) (by first | exact Nat.ne_of_lt (Nat.lt_of_lt_of_le (by have := zW _ _ hw215_0; first | rwa [add_block] at this | exact this) GW219.out) | (rw [add_block]; exact Nat.ne_of_lt (Nat.lt_of_lt_of_le (by have := zW _ _ hw215_0; first | rwa [add_block] at this | exact this) GW219.out)) | (show (Addr.add _ _).block ≠ _; rw [add_block]; exact Nat.ne_of_lt (Nat.lt_of_lt_of_le (by have := zW _ _ hw215_0; first | rwa [add_block] at this | exact this) GW219.out)) | (dsimp only; exact Nat.ne_of_lt (Nat.lt_of_lt_of_le (by have := zW _ _ hw215_0; first | rwa [add_block] at this | exact this) GW219.out))) _).trans (((cell_far (p := ⟨gb219, _, none⟩) (by first | exact Nat.ne_of_lt (Nat.lt_of_lt_of_le (by have := zW _ _ hw215_0; first | rwa [add_block] at this | exact this) GW219.out) | (rw [add_block]; exact Nat.ne_of_lt (Nat.lt_of_lt_of_le (by have := zW _ _ hw215_0; first | rwa [add_block] at this | exact this) GW219.out)) | (show (Addr.add _ _).block ≠ _; rw [add_block]; exact Nat.ne_of_lt (Nat.lt_of_lt_of_le (by have := zW _ _ hw215_0; first | rwa [add_block] at this | exact this) GW219.out)) | (dsimp only; exact Nat.ne_of_lt (Nat.lt_of_lt_of_le (by have := zW _ _ hw215_0; first | rwa [add_block] at this | exact this) GW219.out))) _).trans (((cell_far (p := ⟨gb219, _, none⟩) (by first | exact Nat.ne_of_lt (Nat.lt_of_lt_of_le (by have := zW _ _ hw215_0; first | rwa [add_block] at this | exact this) GW219.out) | (rw [add_block]; exact Nat.ne_of_lt (Nat.lt_of_lt_of_le (by have := zW _ _ hw215_0; first | rwa [add_block] at this | exact this) GW219.out)) | (show (Addr.add _ _).block ≠ _; rw [add_block]; exact Nat.ne_of_lt (Nat.lt_of_lt_of_le (by have := zW _ _ hw215_0; first | rwa [add_block] at this | exact this) GW219.out)) | (dsimp only; exact Nat.ne_of_lt (Nat.lt_of_lt_of_le (by have := zW _ _ hw215_0; first | rwa [add_block] at this | exact this) GW219.out))) _).trans (hHeld.2.2.2.2.1)))))), ((cell_far (p := ⟨gb219, _, none⟩) (by first | exact Nat.ne_of_lt (Nat.lt_of_lt_of_le (by have := zW _ _ hw215_1; first | rwa [add_block] at this | exact this) GW219.out) | (rw [add_block]; exact Nat.ne_of_lt (Nat.lt_of_lt_of_le (by have := zW _ _ hw215_1; first | rwa [add_block] at this | exact this) GW219.out)) | (show (Addr.add _ _).block ≠ _; rw [add_block]; exact Nat.ne_of_lt (Nat.lt_of_lt_of_le (by have := zW _ _ hw215_1; first | rwa [add_block] at this | exact this) GW219.out)) | (dsimp only; exact Nat.ne_of_lt (Nat.lt_of_lt_of_le (by have := zW _ _ hw215_1; first | rwa [add_block] at this | exact this) GW219.out))) _).trans (((cell_far (p := ⟨gb219, _, none⟩) (by first | exact Nat.ne_of_lt (Nat.lt_of_lt_of_le (by have := zW _ _ hw215_1; first | rwa [add_block] at this | exact this) GW219.out) | (rw [add_block]; exact Nat.ne_of_lt (Nat.lt_of_lt_of_le (by have := zW _ _ hw215_1; first | rwa [add_block] at this | exact this) GW219.out)) | (show (Addr.add _ _).block ≠ _; rw [add_block]; exact Nat.ne_of_lt (Nat.lt_of_lt_of_le (by have := zW _ _ hw215_1; first | rwa [add_block] at this | exact this) GW219.out)) | (dsimp only; exact Nat.ne_of_lt (Nat.lt_of_lt_of_le (by have := zW _ _ hw215_1; first | rwa [add_block] at this | exact this) GW219.out))) _).trans (((cell_far (p := ⟨gb219, _, none⟩) (by first | exact Nat.ne_of_lt (Nat.lt_of_lt_of_le (by have := zW _ _ hw215_1; first | rwa [add_block] at this | exact this) GW219.out) | (rw [add_block]; exact Nat.ne_of_lt (Nat.lt_of_lt_of_le (by have := zW _ _ hw215_1; first | rwa [add_block] at this | exact this) GW219.out)) | (show (Addr.add _ _).block ≠ _; rw [add_block]; exact Nat.ne_of_lt (Nat.lt_of_lt_of_le (by have := zW _ _ hw215_1; first | rwa [add_block] at this | exact this) GW219.out)) | (dsimp only; exact Nat.ne_of_lt (Nat.lt_of_lt_of_le (by have := zW _ _ hw215_1; first | rwa [add_block] at this | exact this) GW219.out))) _).trans (hHeld.2.2.2.2.2.1)))))), ((cell_far (p := ⟨gb219, _, none⟩) (by first | exact Nat.ne_of_lt (Nat.lt_of_lt_of_le (by have := zW _ _ hw215_2; first | rwa [add_block] at this | exact this) GW219.out) | (rw [add_block]; exact Nat.ne_of_lt (Nat.lt_of_lt_of_le (by have := zW _ _ hw215_2; first | rwa [add_block] at this | exact this) GW219.out)) | (show (Addr.add _ _).block ≠ _; rw [add_block]; exact Nat.ne_of_lt (Nat.lt_of_lt_of_le (by have := zW _ _ hw215_2; first | rwa [add_block] at this | exact this) GW219.out)) | (dsimp only; exact Nat.ne_of_lt (Nat.lt_of_lt_of_le (by have := zW _ _ hw215_2; first | rwa [add_block] at this | exact this) GW219.out))) _).trans (((cell_far (p := ⟨gb219, _, none⟩) (by first | exact Nat.ne_of_lt (Nat.lt_of_lt_of_le (by have := zW _ _ hw215_2; first | rwa [add_block] at this | exact this) GW219.out) | (rw [add_block]; exact Nat.ne_of_lt (Nat.lt_of_lt_of_le (by have := zW _ _ hw215_2; first | rwa [add_block] at this | exact this) GW219.out)) | (show (Addr.add _ _).block ≠ _; rw [add_block]; exact Nat.ne_of_lt (Nat.lt_of_lt_of_le (by have := zW _ _ hw215_2; first | rwa [add_block] at this | exact this) GW219.out)) | (dsimp only; exact Nat.ne_of_lt (Nat.lt_of_lt_of_le (by have := zW _ _ hw215_2; first | rwa [add_block] at this | exact this) GW219.out))) _).trans (((cell_far (p := ⟨gb219, _, none⟩) (by first | exact Nat.ne_of_lt (Nat.lt_of_lt_of_le (by have := zW _ _ hw215_2; first | rwa [add_block] at this | exact this) GW219.out) | (rw [add_block]; exact Nat.ne_of_lt (Nat.lt_of_lt_of_le (by have := zW _ _ hw215_2; first | rwa [add_block] at this | exact this) GW219.out)) | (show (Addr.add _ _).block ≠ _; rw [add_block]; exact Nat.ne_of_lt (Nat.lt_of_lt_of_le (by have := zW _ _ hw215_2; first | rwa [add_block] at this | exact this) GW219.out)) | (dsimp only; exact Nat.ne_of_lt (Nat.lt_of_lt_of_le (by have := zW _ _ hw215_2; first | rwa [add_block] at this | exact this) GW219.out))) _).trans (hHeld.2.2.2.2.2.2.1)))))), ((cell_far (p := ⟨gb219, _, none⟩) (by first | exact Nat.ne_of_lt (Nat.lt_of_lt_of_le (by have := zW _ _ hw216_0; first | rwa [add_block] at this | exact this) GW219.out) | (rw [add_block]; exact Nat.ne_of_lt (Nat.lt_of_lt_of_le (by have := zW _ _ hw216_0; first | rwa [add_block] at this | exact this) GW219.out)) | (show (Addr.add _ _).block ≠ _; rw [add_block]; exact Nat.ne_of_lt (Nat.lt_of_lt_of_le (by have := zW _ _ hw216_0; first | rwa [add_block] at this | exact this) GW219.out)) | (dsimp only; exact Nat.ne_of_lt (Nat.lt_of_lt_of_le (by have := zW _ _ hw216_0; first | rwa [add_block] at this | exact this) GW219.out))) _).trans (((cell_far (p := ⟨gb219, _, none⟩) (by first | exact Nat.ne_of_lt (Nat.lt_of_lt_of_le (by have := zW _ _ hw216_0; first | rwa [add_block] at this | exact this) GW219.out) | (rw [add_block]; exact Nat.ne_of_lt (Nat.lt_of_lt_of_le (by have := zW _ _ hw216_0; first | rwa [add_block] at this | exact this) GW219.out)) | (show (Addr.add _ _).block ≠ _; rw [add_block]; exact Nat.ne_of_lt (Nat.lt_of_lt_of_le (by have := zW _ _ hw216_0; first | rwa [add_block] at this | exact this) GW219.out)) | (dsimp only; exact Nat.ne_of_lt (Nat.lt_of_lt_of_le (by have := zW _ _ hw216_0; first | rwa [add_block] at this | exact this) GW219.out))) _).trans (((cell_far (p := ⟨gb219, _, none⟩) (by first | exact Nat.ne_of_lt (Nat.lt_of_lt_of_le (by have := zW _ _ hw216_0; first | rwa [add_block] at this | exact this) GW219.out) | (rw [add_block]; exact Nat.ne_of_lt (Nat.lt_of_lt_of_le (by have := zW _ _ hw216_0; first | rwa [add_block] at this | exact this) GW219.out)) | (show (Addr.add _ _).block ≠ _; rw [add_block]; exact Nat.ne_of_lt (Nat.lt_of_lt_of_le (by have := zW _ _ hw216_0; first | rwa [add_block] at this | exact this) GW219.out)) | (dsimp only; exact Nat.ne_of_lt (Nat.lt_of_lt_of_le (by have := zW _ _ hw216_0; first | rwa [add_block] at this | exact this) GW219.out))) _).trans (hHeld.2.2.2.2.2.2.2.1)))))), ((cell_far (p := ⟨gb219, _, none⟩) (by first | exact Nat.ne_of_lt (Nat.lt_of_lt_of_le (by have := zW _ _ hw216_1; first | rwa [add_block] at this | exact this) GW219.out) | (rw [add_block]; exact Nat.ne_of_lt (Nat.lt_of_lt_of_le (by have := zW _ _ hw216_1; first | rwa [add_block] at this | exact this) GW219.out)) | (show (Addr.add _ _).block ≠ _; rw [add_block]; exact Nat.ne_of_lt (Nat.lt_of_lt_of_le (by have := zW _ _ hw216_1; first | rwa [add_block] at this | exact this) GW219.out)) | (dsimp only; exact Nat.ne_of_lt (Nat.lt_of_lt_of_le (by have := zW _ _ hw216_1; first | rwa [add_block] at this | exact this) GW219.out))) _).trans (((cell_far (p := ⟨gb219, _, none⟩) (by first | exact Nat.ne_of_lt (Nat.lt_of_lt_of_le (by have := zW _ _ hw216_1; first | rwa [add_block] at this | exact this) GW219.out) | (rw [add_block]; exact Nat.ne_of_lt (Nat.lt_of_lt_of_le (by have := zW _ _ hw216_1; first | rwa [add_block] at this | exact this) GW219.out)) | (show (Addr.add _ _).block ≠ _; rw [add_block]; exact Nat.ne_of_lt (Nat.lt_of_lt_of_le (by have := zW _ _ hw216_1; first | rwa [add_block] at this | exact this) GW219.out)) | (dsimp only; exact Nat.ne_of_lt (Nat.lt_of_lt_of_le (by have := zW _ _ hw216_1; first | rwa [add_block] at this | exact this) GW219.out))) _).trans (((cell_far (p := ⟨gb219, _, none⟩) (by first | exact Nat.ne_of_lt (Nat.lt_of_lt_of_le (by have := zW _ _ hw216_1; first | rwa [add_block] at this | exact this) GW219.out) | (rw [add_block]; exact Nat.ne_of_lt (Nat.lt_of_lt_of_le (by have := zW _ _ hw216_1; first | rwa [add_block] at this | exact this) GW219.out)) | (show (Addr.add _ _).block ≠ _; rw [add_block]; exact Nat.ne_of_lt (Nat.lt_of_lt_of_le (by have := zW _ _ hw216_1; first | rwa [add_block] at this | exact this) GW219.out)) | (dsimp only; exact Nat.ne_of_lt (Nat.lt_of_lt_of_le (by have := zW _ _ hw216_1; first | rwa [add_block] at this | exact this) GW219.out))) _).trans (hHeld.2.2.2.2.2.2.2.2.1)))))), ((cell_far (p := ⟨gb219, _, none⟩) (by first | exact Nat.ne_of_lt (Nat.lt_of_lt_of_le (by have := zW _ _ hw217_0; first | rwa [add_block] at this | exact this) GW219.out) | (rw [add_block]; exact Nat.ne_of_lt (Nat.lt_of_lt_of_le (by have := zW _ _ hw217_0; first | rwa [add_block] at this | exact this) GW219.out)) | (show (Addr.add _ _).block ≠ _; rw [add_block]; exact Nat.ne_of_lt (Nat.lt_of_lt_of_le (by have := zW _ _ hw217_0; first | rwa [add_block] at this | exact this) GW219.out)) | (dsimp only; exact Nat.ne_of_lt (Nat.lt_of_lt_of_le (by have := zW _ _ hw217_0; first | rwa [add_block] at this | exact this) GW219.out))) _).trans (((cell_far (p := ⟨gb219, _, none⟩) (by first | exact Nat.ne_of_lt (Nat.lt_of_lt_of_le (by have := zW _ _ hw217_0; first | rwa [add_block] at this | exact this) GW219.out) | (rw [add_block]; exact Nat.ne_of_lt (Nat.lt_of_lt_of_le (by have := zW _ _ hw217_0; first | rwa [add_block] at this | exact this) GW219.out)) | (show (Addr.add _ _).block ≠ _; rw [add_block]; exact Nat.ne_of_lt (Nat.lt_of_lt_of_le (by have := zW _ _ hw217_0; first | rwa [add_block] at this | exact this) GW219.out)) | (dsimp only; exact Nat.ne_of_lt (Nat.lt_of_lt_of_le (by have := zW _ _ hw217_0; first | rwa [add_block] at this | exact this) GW219.out))) _).trans (((cell_far (p := ⟨gb219, _, none⟩) (by first | exact Nat.ne_of_lt (Nat.lt_of_lt_of_le (by have := zW _ _ hw217_0; first | rwa [add_block] at this | exact this) GW219.out) | (rw [add_block]; exact Nat.ne_of_lt (Nat.lt_of_lt_of_le (by have := zW _ _ hw217_0; first | rwa [add_block] at this | exact this) GW219.out)) | (show (Addr.add _ _).block ≠ _; rw [add_block]; exact Nat.ne_of_lt (Nat.lt_of_lt_of_le (by have := zW _ _ hw217_0; first | rwa [add_block] at this | exact this) GW219.out)) | (dsimp only; exact Nat.ne_of_lt (Nat.lt_of_lt_of_le (by have := zW _ _ hw217_0; first | rwa [add_block] at this | exact this) GW219.out))) _).trans (hHeld.2.2.2.2.2.2.2.2.2.1)))))), ((cell_far (p := ⟨gb219, _, none⟩) (by first | exact Nat.ne_of_lt (Nat.lt_of_lt_of_le (by have := zW _ _ hw217_1; first | rwa [add_block] at this | exact this) GW219.out) | (rw [add_block]; exact Nat.ne_of_lt (Nat.lt_of_lt_of_le (by have := zW _ _ hw217_1; first | rwa [add_block] at this | exact this) GW219.out)) | (show (Addr.add _ _).block ≠ _; rw [add_block]; exact Nat.ne_of_lt (Nat.lt_of_lt_of_le (by have := zW _ _ hw217_1; first | rwa [add_block] at this | exact this) GW219.out)) | (dsimp only; exact Nat.ne_of_lt (Nat.lt_of_lt_of_le (by have := zW _ _ hw217_1; first | rwa [add_block] at this | exact this) GW219.out))) _).trans (((cell_far (p := ⟨gb219, _, none⟩) (by first | exact Nat.ne_of_lt (Nat.lt_of_lt_of_le (by have := zW _ _ hw217_1; first | rwa [add_block] at this | exact this) GW219.out) | (rw [add_block]; exact Nat.ne_of_lt (Nat.lt_of_lt_of_le (by have := zW _ _ hw217_1; first | rwa [add_block] at this | exact this) GW219.out)) | (show (Addr.add _ _).block ≠ _; rw [add_block]; exact Nat.ne_of_lt (Nat.lt_of_lt_of_le (by have := zW _ _ hw217_1; first | rwa [add_block] at this | exact this) GW219.out)) | (dsimp only; exact Nat.ne_of_lt (Nat.lt_of_lt_of_le (by have := zW _ _ hw217_1; first | rwa [add_block] at this | exact this) GW219.out))) _).trans (((cell_far (p := ⟨gb219, _, none⟩) (by first | exact Nat.ne_of_lt (Nat.lt_of_lt_of_le (by have := zW _ _ hw217_1; first | rwa [add_block] at this | exact this) GW219.out) | (rw [add_block]; exact Nat.ne_of_lt (Nat.lt_of_lt_of_le (by have := zW _ _ hw217_1; first | rwa [add_block] at this | exact this) GW219.out)) | (show (Addr.add _ _).block ≠ _; rw [add_block]; exact Nat.ne_of_lt (Nat.lt_of_lt_of_le (by have := zW _ _ hw217_1; first | rwa [add_block] at this | exact this) GW219.out)) | (dsimp only; exact Nat.ne_of_lt (Nat.lt_of_lt_of_le (by have := zW _ _ hw217_1; first | rwa [add_block] at this | exact this) GW219.out))) _).trans (hHeld.2.2.2.2.2.2.2.2.2.2.1)))))), ((cell_far (p := ⟨gb219, _, none⟩) (by first | exact Nat.ne_of_lt (Nat.lt_of_lt_of_le (by have := zW _ _ hw217_2; first | rwa [add_block] at this | exact this) GW219.out) | (rw [add_block]; exact Nat.ne_of_lt (Nat.lt_of_lt_of_le (by have := zW _ _ hw217_2; first | rwa [add_block] at this | exact this) GW219.out)) | (show (Addr.add _ _).block ≠ _; rw [add_block]; exact Nat.ne_of_lt (Nat.lt_of_lt_of_le (by have := zW _ _ hw217_2; first | rwa [add_block] at this | exact this) GW219.out)) | (dsimp only; exact Nat.ne_of_lt (Nat.lt_of_lt_of_le (by have := zW _ _ hw217_2; first | rwa [add_block] at this | exact this) GW219.out))) _).trans (((cell_far (p := ⟨gb219, _, none⟩) (by first | exact Nat.ne_of_lt (Nat.lt_of_lt_of_le (by have := zW _ _ hw217_2; first | rwa [add_block] at this | exact this) GW219.out) | (rw [add_block]; exact Nat.ne_of_lt (Nat.lt_of_lt_of_le (by have := zW _ _ hw217_2; first | rwa [add_block] at this | exact this) GW219.out)) | (show (Addr.add _ _).block ≠ _; rw [add_block]; exact Nat.ne_of_lt (Nat.lt_of_lt_of_le (by have := zW _ _ hw217_2; first | rwa [add_block] at this | exact this) GW219.out)) | (dsimp only; exact Nat.ne_of_lt (Nat.lt_of_lt_of_le (by have := zW _ _ hw217_2; first | rwa [add_block] at this | exact this) GW219.out))) _).trans (((cell_far (p := ⟨gb219, _, none⟩) (by first | exact Nat.ne_of_lt (Nat.lt_of_lt_of_le (by have := zW _ _ hw217_2; first | rwa [add_block] at this | exact this) GW219.out) | (rw [add_block]; exact Nat.ne_of_lt (Nat.lt_of_lt_of_le (by have := zW _ _ hw217_2; first | rwa [add_block] at this | exact this) GW219.out)) | (show (Addr.add _ _).block ≠ _; rw [add_block]; exact Nat.ne_of_lt (Nat.lt_of_lt_of_le (by have := zW _ _ hw217_2; first | rwa [add_block] at this | exact this) GW219.out)) | (dsimp only; exact Nat.ne_of_lt (Nat.lt_of_lt_of_le (by have := zW _ _ hw217_2; first | rwa [add_block] at this | exact this) GW219.out))) _).trans (hHeld.2.2.2.2.2.2.2.2.2.2.2))))))⟩ (fun hHeld => ?_)
   clear hK K
   refine done_ (done_of HT_.out (by kernel_rfl)) ?_
   try go_wp2
   have n0_ : Aside0 (Kd.R k80 80 ((((((w20.setCell ⟨gb218, 0, none⟩ (.string ((rd_T94 l0_0 ((rd_T97 l0_1 x5_1).f0)).f0))).setCell ⟨gb218, 1, none⟩ (.int .i64 ((rd_T94 l0_0 ((rd_T97 l0_1 x5_1).f0)).f1))).setCell ⟨gb218, 2, none⟩ (.int .i64 ((rd_T94 l0_0 ((rd_T97 l0_1 x5_1).f0)).f2))).setCell ⟨gb219, 0, none⟩ (.string ((rd_T94 l0_0 ((rd_T97 l0_1 x5_1).f1)).f0))).setCell ⟨gb219, 1, none⟩ (.int .i64 ((rd_T94 l0_0 ((rd_T97 l0_1 x5_1).f1)).f1))).setCell ⟨gb219, 2, none⟩ (.int .i64 ((rd_T94 l0_0 ((rd_T97 l0_1 x5_1).f1)).f2))) w.heap.size (fun _ => True) u4 x4_1) := ⟨by (with_reducible repeat (first | apply zRa | apply zRn | apply zRd)); exact Kd.R_mono (Kd.R_far (p := ⟨gb219, 2, none⟩) (Kd.R_far (p := ⟨gb219, 1, none⟩) (Kd.R_far (p := ⟨gb219, 0, none⟩) (Kd.R_far (p := ⟨gb218, 2, none⟩) (Kd.R_far (p := ⟨gb218, 1, none⟩) (Kd.R_far (p := ⟨gb218, 0, none⟩) (Kd.R_types (Kd.R_types HO_4.out BK218.out (by decide)) BK219.out (by decide)) (fun _ hk => hk.1.2) (.string ((rd_T94 l0_0 ((rd_T97 l0_1 x5_1).f0)).f0))) (fun _ hk => hk.1.2) (.int .i64 ((rd_T94 l0_0 ((rd_T97 l0_1 x5_1).f0)).f1))) (fun _ hk => hk.1.2) (.int .i64 ((rd_T94 l0_0 ((rd_T97 l0_1 x5_1).f0)).f2))) (fun _ hk => hk.2) (.string ((rd_T94 l0_0 ((rd_T97 l0_1 x5_1).f1)).f0))) (fun _ hk => hk.2) (.int .i64 ((rd_T94 l0_0 ((rd_T97 l0_1 x5_1).f1)).f1))) (fun _ hk => hk.2) (.int .i64 ((rd_T94 l0_0 ((rd_T97 l0_1 x5_1).f1)).f2))) (fun _ hk => trivial)⟩
   have n1_ : Aside0 (((((((w20.setCell ⟨gb218, 0, none⟩ (.string ((rd_T94 l0_0 ((rd_T97 l0_1 x5_1).f0)).f0))).setCell ⟨gb218, 1, none⟩ (.int .i64 ((rd_T94 l0_0 ((rd_T97 l0_1 x5_1).f0)).f1))).setCell ⟨gb218, 2, none⟩ (.int .i64 ((rd_T94 l0_0 ((rd_T97 l0_1 x5_1).f0)).f2))).setCell ⟨gb219, 0, none⟩ (.string ((rd_T94 l0_0 ((rd_T97 l0_1 x5_1).f1)).f0))).setCell ⟨gb219, 1, none⟩ (.int .i64 ((rd_T94 l0_0 ((rd_T97 l0_1 x5_1).f1)).f1))).setCell ⟨gb219, 2, none⟩ (.int .i64 ((rd_T94 l0_0 ((rd_T97 l0_1 x5_1).f1)).f2))).heap[gb209]? = some (.cells #[.slice (some ad215) l0_0.length c0_0, .slice (some ad214) l0_1.length c0_1] 46 (0, 0))) := ⟨by (with_reducible repeat (first | apply zNn | apply zNd | apply zNa)); refine zNf ?_ NB209_219.out _; (with_reducible repeat (first | apply zNn | apply zNd | apply zNa)); refine zNf ?_ NB209_219.out _; (with_reducible repeat (first | apply zNn | apply zNd | apply zNa)); refine zNf ?_ NB209_219.out _; (with_reducible repeat (first | apply zNn | apply zNd | apply zNa)); refine zNf ?_ NB209_218.out _; (with_reducible repeat (first | apply zNn | apply zNd | apply zNa)); refine zNf ?_ NB209_218.out _; (with_reducible repeat (first | apply zNn | apply zNd | apply zNa)); refine zNf ?_ NB209_218.out _; (with_reducible repeat (first | apply zNn | apply zNd | apply zNa)); exact BK209.out⟩
   have n2_ : Aside0 (((((((w20.setCell ⟨gb218, 0, none⟩ (.string ((rd_T94 l0_0 ((rd_T97 l0_1 x5_1).f0)).f0))).setCell ⟨gb218, 1, none⟩ (.int .i64 ((rd_T94 l0_0 ((rd_T97 l0_1 x5_1).f0)).f1))).setCell ⟨gb218, 2, none⟩ (.int .i64 ((rd_T94 l0_0 ((rd_T97 l0_1 x5_1).f0)).f2))).setCell ⟨gb219, 0, none⟩ (.string ((rd_T94 l0_0 ((rd_T97 l0_1 x5_1).f1)).f0))).setCell ⟨gb219, 1, none⟩ (.int .i64 ((rd_T94 l0_0 ((rd_T97 l0_1 x5_1).f1)).f1))).setCell ⟨gb219, 2, none⟩ (.int .i64 ((rd_T94 l0_0 ((rd_T97 l0_1 x5_1).f1)).f2))).heap[gb218]? = some (.cells #[.string ((rd_T94 l0_0 ((rd_T97 l0_1 x5_1).f0)).f0), .int .i64 ((rd_T94 l0_0 ((rd_T97 l0_1 x5_1).f0)).f1), .int .i64 ((rd_T94 l0_0 ((rd_T97 l0_1 x5_1).f0)).f2)] 94 (0, 0))) := ⟨by (with_reducible repeat (first | apply zNn | apply zNd | apply zNa)); refine zNf ?_ NB218_219.out _; (with_reducible repeat (first | apply zNn | apply zNd | apply zNa)); refine zNf ?_ NB218_219.out _; (with_reducible repeat (first | apply zNn | apply zNd | apply zNa)); refine zNf ?_ NB218_219.out _; (with_reducible repeat (first | apply zNn | apply zNd | apply zNa)); refine blk_put (cs := #[.string ((rd_T94 l0_0 ((rd_T97 l0_1 x5_1).f0)).f0), .int .i64 ((rd_T94 l0_0 ((rd_T97 l0_1 x5_1).f0)).f1), .int .i64 0]) ?_ 2 _ rfl; (with_reducible repeat (first | apply zNn | apply zNd | apply zNa)); refine blk_put (cs := #[.string ((rd_T94 l0_0 ((rd_T97 l0_1 x5_1).f0)).f0), .int .i64 0, .int .i64 0]) ?_ 1 _ rfl; (with_reducible repeat (first | apply zNn | apply zNd | apply zNa)); refine blk_put (cs := #[.string (⟨#[]⟩ : ByteArray), .int .i64 0, .int .i64 0]) ?_ 0 _ rfl; (with_reducible repeat (first | apply zNn | apply zNd | apply zNa)); exact BK218.out⟩
   have n3_ : Aside0 (((((((w20.setCell ⟨gb218, 0, none⟩ (.string ((rd_T94 l0_0 ((rd_T97 l0_1 x5_1).f0)).f0))).setCell ⟨gb218, 1, none⟩ (.int .i64 ((rd_T94 l0_0 ((rd_T97 l0_1 x5_1).f0)).f1))).setCell ⟨gb218, 2, none⟩ (.int .i64 ((rd_T94 l0_0 ((rd_T97 l0_1 x5_1).f0)).f2))).setCell ⟨gb219, 0, none⟩ (.string ((rd_T94 l0_0 ((rd_T97 l0_1 x5_1).f1)).f0))).setCell ⟨gb219, 1, none⟩ (.int .i64 ((rd_T94 l0_0 ((rd_T97 l0_1 x5_1).f1)).f1))).setCell ⟨gb219, 2, none⟩ (.int .i64 ((rd_T94 l0_0 ((rd_T97 l0_1 x5_1).f1)).f2))).heap[gb219]? = some (.cells #[.string ((rd_T94 l0_0 ((rd_T97 l0_1 x5_1).f1)).f0), .int .i64 ((rd_T94 l0_0 ((rd_T97 l0_1 x5_1).f1)).f1), .int .i64 ((rd_T94 l0_0 ((rd_T97 l0_1 x5_1).f1)).f2)] 94 (0, 0))) := ⟨by (with_reducible repeat (first | apply zNn | apply zNd | apply zNa)); refine blk_put (cs := #[.string ((rd_T94 l0_0 ((rd_T97 l0_1 x5_1).f1)).f0), .int .i64 ((rd_T94 l0_0 ((rd_T97 l0_1 x5_1).f1)).f1), .int .i64 0]) ?_ 2 _ rfl; (with_reducible repeat (first | apply zNn | apply zNd | apply zNa)); refine blk_put (cs := #[.string ((rd_T94 l0_0 ((rd_T97 l0_1 x5_1).f1)).f0), .int .i64 0, .int .i64 0]) ?_ 1 _ rfl; (with_reducible repeat (first | apply zNn | apply zNd | apply zNa)); refine blk_put (cs := #[.string (⟨#[]⟩ : ByteArray), .int .i64 0, .int .i64 0]) ?_ 0 _ rfl; (with_reducible repeat (first | apply zNn | apply zNd | apply zNa)); refine zNf ?_ NB219_218.out _; (with_reducible repeat (first | apply zNn | apply zNd | apply zNa)); refine zNf ?_ NB219_218.out _; (with_reducible repeat (first | apply zNn | apply zNd | apply zNa)); refine zNf ?_ NB219_218.out _; (with_reducible repeat (first | apply zNn | apply zNd | apply zNa)); exact BK219.out⟩
   have n4_ : Aside0 (Below w.heap.size w ((((((w20.setCell ⟨gb218, 0, none⟩ (.string ((rd_T94 l0_0 ((rd_T97 l0_1 x5_1).f0)).f0))).setCell ⟨gb218, 1, none⟩ (.int .i64 ((rd_T94 l0_0 ((rd_T97 l0_1 x5_1).f0)).f1))).setCell ⟨gb218, 2, none⟩ (.int .i64 ((rd_T94 l0_0 ((rd_T97 l0_1 x5_1).f0)).f2))).setCell ⟨gb219, 0, none⟩ (.string ((rd_T94 l0_0 ((rd_T97 l0_1 x5_1).f1)).f0))).setCell ⟨gb219, 1, none⟩ (.int .i64 ((rd_T94 l0_0 ((rd_T97 l0_1 x5_1).f1)).f1))).setCell ⟨gb219, 2, none⟩ (.int .i64 ((rd_T94 l0_0 ((rd_T97 l0_1 x5_1).f1)).f2)))) := ⟨by repeat (first | (with_reducible first | exact HB.out | apply zBa | apply zBn | apply zBd | refine zBs ?_ GE209.out | refine zBs ?_ GE218.out | refine zBs ?_ GE219.out) | exact HB.out)⟩
   (try clear HO_4)
   (try clear BK209)
   (try clear BK218)
   (try clear BK219)
   (try clear HB)
   generalize ((((((w20.setCell ⟨gb218, 0, none⟩ (.string ((rd_T94 l0_0 ((rd_T97 l0_1 x5_1).f0)).f0))).setCell ⟨gb218, 1, none⟩ (.int .i64 ((rd_T94 l0_0 ((rd_T97 l0_1 x5_1).f0)).f1))).setCell ⟨gb218, 2, none⟩ (.int .i64 ((rd_T94 l0_0 ((rd_T97 l0_1 x5_1).f0)).f2))).setCell ⟨gb219, 0, none⟩ (.string ((rd_T94 l0_0 ((rd_T97 l0_1 x5_1).f1)).f0))).setCell ⟨gb219, 1, none⟩ (.int .i64 ((rd_T94 l0_0 ((rd_T97 l0_1 x5_1).f1)).f1))).setCell ⟨gb219, 2, none⟩ (.int .i64 ((rd_T94 l0_0 ((rd_T97 l0_1 x5_1).f1)).f2))) = w27 at n0_ n1_ n2_ n3_ n4_ ⊢
   have HO_4 := n0_
   have BK209 := n1_
   have BK218 := n2_
   have BK219 := n3_
   have HB := n4_
   clear n0_ n1_ n2_ n3_ n4_
   have n0_ := zM (zRd HO_4.out)
   have n1_ := zM (zNd BK209.out)
   have n2_ := zM (zNd BK218.out)
   have n3_ := zM (zNd BK219.out)
   have n4_ := zM (zBd HB.out)
   clear HO_4
   clear BK209
   clear BK218
   clear BK219
   clear HB
   have HO_4 := n0_
   have BK209 := n1_
   have BK218 := n2_
   have BK219 := n3_
   have HB := n4_
   clear n0_ n1_ n2_ n3_ n4_
   have p220 : 0 ≤ (x5_1 : Int) := zT (by assumption)
   have q220 : x5_1 < (l0_1.length : Int) := zT (by assumption)
   obtain ⟨ad220, e220, hx220_0, hx220_1⟩ := at_T97 HR0_1.out x5_1 p220 q220
   have hw220_1 := hx220_1
   have hw220_0 := hx220_0
   obtain rfl : ad214 = ad220 := (by injection e220)
   replace hx220_0 := (HB.out.cell (zW w _ hx220_0)).trans hx220_0
   replace hx220_1 := (HB.out.cell (zW w _ hx220_1)).trans hx220_1
   replace p220 := eq_true p220
   replace q220 := eq_true q220
   have p221 : 0 ≤ (x5_1 : Int) := zT (by assumption)
   have q221 : x5_1 < (l0_1.length : Int) := zT (by assumption)
   obtain ⟨ad221, e221, hx221_0, hx221_1⟩ := at_T97 HR0_1.out x5_1 p221 q221
   have hw221_1 := hx221_1
   have hw221_0 := hx221_0
   obtain rfl : ad214 = ad221 := (by injection e221)
   replace hx221_0 := (HB.out.cell (zW w _ hx221_0)).trans hx221_0
   replace hx221_1 := (HB.out.cell (zW w _ hx221_1)).trans hx221_1
   replace p221 := eq_true p221
   replace q221 := eq_true q221
   refine start_ (n := 15) (S := fun w' => w'.cell? ⟨gb209, 0, none⟩ = some (.slice (some ad215) l0_0.length c0_0) ∧ w'.cell? ⟨gb209, 1, none⟩ = some (.slice (some ad214) l0_1.length c0_1) ∧ w'.cell? (ad214.add ((x5_1).toNat * 2)) = some (.int .i64 ((rd_T97 l0_1 x5_1).f0)) ∧ w'.cell? ⟨(ad214.add ((x5_1).toNat * 2)).block, (ad214.add ((x5_1).toNat * 2)).off + 1, none⟩ = some (.int .i64 ((rd_T97 l0_1 x5_1).f1)) ∧ w'.cell? (ad214.add ((x5_1).toNat * 2)) = some (.int .i64 ((rd_T97 l0_1 x5_1).f0)) ∧ w'.cell? ⟨(ad214.add ((x5_1).toNat * 2)).block, (ad214.add ((x5_1).toNat * 2)).off + 1, none⟩ = some (.int .i64 ((rd_T97 l0_1 x5_1).f1))) (ds := []) #[zf,zf,zf,zf,zf,zf,zf,zf,zf,zf,zf,zf,zf,zf,zf] (by kernel_rfl) rfl rfl ⟨(blk_cell BK209.out 0).trans rfl, (blk_cell BK209.out 1).trans rfl, ((HB.out.cell (zW w _ hw220_0)).trans hw220_0), ((HB.out.cell (zW w _ hw220_1)).trans hw220_1), ((HB.out.cell (zW w _ hw221_0)).trans hw221_0), ((HB.out.cell (zW w _ hw221_1)).trans hw221_1)⟩ (fun hHeld => ?_); refine with_tabW spec_Wiring.tab8 spec_Wiring.bits8 (fun HT_ HW_ => ?_)
   generalize w27.drew = w28 at HO_4 BK209 BK218 BK219 HB hx220_0 hx220_1 hx221_0 hx221_1 hHeld ⊢
   refine pure_ (i := 0) (N := some 41) (v := ?_) (a' := ?_) #[zt,zf,zf,zf,zf,zf,zf,zf,zf,zf,zf,zf,zf,zf,zf] rfl rfl (any_of HT_.out (by kernel_rfl)) (fun _ _ _ h => h) (Or.inl ⟨by rfl, ?_⟩) ?_ ?_
   rotate_left
   ·intro w'
    go_simp
    with_reducible rfl
   rotate_left
   ·simp only [Act.put, zS1, zS2, zS3, i64_w, i32_w]
    rfl
   refine pure_ (i := 2) (N := some 43) (v := ?_) (a' := ?_) #[zt,zf,zt,zf,zf,zf,zf,zf,zf,zf,zf,zf,zf,zf,zf] rfl rfl (any_of HT_.out (by kernel_rfl)) (fun _ _ _ h => h) (Or.inl ⟨by rfl, ?_⟩) ?_ ?_
   rotate_left
   ·intro w'
    go_simp
    with_reducible rfl
   rotate_left
   ·simp only [Act.put, zS1, zS2, zS3, i64_w, i32_w]
    rfl
   refine pure_ (i := 6) (N := some 47) (v := ?_) (a' := ?_) #[zt,zf,zt,zf,zf,zf,zt,zf,zf,zf,zf,zf,zf,zf,zf] rfl rfl (any_of HT_.out (by kernel_rfl)) (fun _ _ _ h => h) (Or.inl ⟨by rfl, ?_⟩) ?_ ?_
   rotate_left
   ·intro w'
    go_simp
    with_reducible rfl
   rotate_left
   ·simp only [Act.put, zS1, zS2, zS3, i64_w, i32_w]
    rfl
   refine pure_ (i := 8) (N := some 49) (v := ?_) (a' := ?_) #[zt,zf,zt,zf,zf,zf,zt,zf,zt,zf,zf,zf,zf,zf,zf] rfl rfl (any_of HT_.out (by kernel_rfl)) (fun _ _ _ h => h) (Or.inl ⟨by rfl, ?_⟩) ?_ ?_
   rotate_left
   ·intro w'
    go_simp
    with_reducible rfl
   rotate_left
   ·simp only [Act.put, zS1, zS2, zS3, i64_w, i32_w]
    rfl
   refine take_ (i := 1) (N := some 42) (v := ?_) (a' := ?_) #[zt,zt,zt,zf,zf,zf,zt,zf,zt,zf,zf,zf,zf,zf,zf] rfl rfl (take_ofW HT_.out HW_.out (by kernel_rfl)) (fun _ _ _ h => h) (Or.inl ⟨by rfl, ?_⟩) hHeld ?_ ?_
   rotate_left
   ·rintro w' ⟨s0, s1, s2, s3, s4, s5⟩
    go_simp
    with_reducible rfl
   rotate_left
   ·simp only [Act.put, zS1, zS2, zS3, i64_w, i32_w]
    rfl
   refine pure_ (i := 3) (N := some 44) (v := ?_) (a' := ?_) #[zt,zt,zt,zt,zf,zf,zt,zf,zt,zf,zf,zf,zf,zf,zf] rfl rfl (any_of HT_.out (by kernel_rfl)) (fun _ _ _ h => h) (Or.inl ⟨by rfl, ?_⟩) ?_ ?_
   rotate_left
   ·intro w'
    go_simp
    with_reducible rfl
   rotate_left
   ·simp only [Act.put, zS1, zS2, zS3, i64_w, i32_w]
    rfl
   refine pure_ (i := 4) (N := some 45) (v := ?_) (a' := ?_) #[zt,zt,zt,zt,zt,zf,zt,zf,zt,zf,zf,zf,zf,zf,zf] rfl rfl (any_of HT_.out (by kernel_rfl)) (fun _ _ _ h => h) (Or.inl ⟨by rfl, ?_⟩) ?_ ?_
   rotate_left
   ·intro w'
    go_simp
    with_reducible rfl
   rotate_left
   ·simp only [Act.put, zS1, zS2, zS3, i64_w, i32_w]
    rfl
   refine take_ (i := 5) (N := some 46) (v := ?_) (a' := ?_) #[zt,zt,zt,zt,zt,zt,zt,zf,zt,zf,zf,zf,zf,zf,zf] rfl rfl (take_ofW HT_.out HW_.out (by kernel_rfl)) (fun _ _ _ h => h) (Or.inl ⟨by rfl, ?_⟩) hHeld ?_ ?_
   rotate_left
   ·rintro w' ⟨s0, s1, s2, s3, s4, s5⟩
    go_simp
    with_reducible rfl
   rotate_left
   ·simp only [Act.put, zS1, zS2, zS3, i64_w, i32_w]
    rfl
   refine take_ (i := 7) (N := some 48) (v := ?_) (a' := ?_) #[zt,zt,zt,zt,zt,zt,zt,zt,zt,zf,zf,zf,zf,zf,zf] rfl rfl (take_ofW HT_.out HW_.out (by kernel_rfl)) (fun _ _ _ h => h) (Or.inl ⟨by rfl, ?_⟩) hHeld ?_ ?_
   rotate_left
   ·rintro w' ⟨s0, s1, s2, s3, s4, s5⟩
    go_simp
    with_reducible rfl
   rotate_left
   ·simp only [Act.put, zS1, zS2, zS3, i64_w, i32_w]
    rfl
   refine pure_ (i := 9) (N := some 50) (v := ?_) (a' := ?_) #[zt,zt,zt,zt,zt,zt,zt,zt,zt,zt,zf,zf,zf,zf,zf] rfl rfl (any_of HT_.out (by kernel_rfl)) (fun _ _ _ h => h) (Or.inl ⟨by rfl, ?_⟩) ?_ ?_
   rotate_left
   ·intro w'
    go_simp
    with_reducible rfl
   rotate_left
   ·simp only [Act.put, zS1, zS2, zS3, i64_w, i32_w]
    rfl
   refine pure_ (i := 10) (N := some 51) (v := ?_) (a' := ?_) #[zt,zt,zt,zt,zt,zt,zt,zt,zt,zt,zt,zf,zf,zf,zf] rfl rfl (any_of HT_.out (by kernel_rfl)) (fun _ _ _ h => h) (Or.inl ⟨by rfl, ?_⟩) ?_ ?_
   rotate_left
   ·intro w'
    go_simp
    with_reducible rfl
   rotate_left
   ·simp only [Act.put, zS1, zS2, zS3, i64_w, i32_w]
    rfl
   refine take_ (i := 11) (N := some 52) (v := ?_) (a' := ?_) #[zt,zt,zt,zt,zt,zt,zt,zt,zt,zt,zt,zt,zf,zf,zf] rfl rfl (take_ofW HT_.out HW_.out (by kernel_rfl)) (fun _ _ _ h => h) (Or.inl ⟨by rfl, ?_⟩) hHeld ?_ ?_
   rotate_left
   ·rintro w' ⟨s0, s1, s2, s3, s4, s5⟩
    go_simp
    with_reducible rfl
   rotate_left
   ·simp only [Act.put, zS1, zS2, zS3, i64_w, i32_w]
    rfl
   refine pure_ (i := 12) (N := some 53) (v := ?_) (a' := ?_) #[zt,zt,zt,zt,zt,zt,zt,zt,zt,zt,zt,zt,zt,zf,zf] rfl rfl (any_of HT_.out (by kernel_rfl)) (fun _ _ _ h => h) (Or.inl ⟨by rfl, ?_⟩) ?_ ?_
   rotate_left
   ·intro w'
    go_simp
    with_reducible rfl
   rotate_left
   ·simp only [Act.put, zS1, zS2, zS3, i64_w, i32_w]
    rfl
   refine one_ (i := 13) (N := some 8) #[zt,zt,zt,zt,zt,zt,zt,zt,zt,zt,zt,zt,zt,zt,zf] rfl rfl (one_of HT_.out (by kernel_rfl)) (by decide) (fun K hK => ?_)
   refine box_step ?hg (N := 8) ?hd (cs := #[.int .i64 0, .int .i64 0, .int .i64 0, .int .i64 0, .int .i64 0]) (t := 80) ?hr ?_; (case hd => rfl); (case hg => rfl); (case hr => first | (go_simp; done) | (go_simp; rfl))
   intro gb222 hg w29 hbox hb
   have n0_ := zM (Kd.R_below (Kd.R_elderB (by (with_reducible repeat (first | apply zRa | apply zRn | apply zRd)); first | exact HO_4.out | (subst_vars; exact HO_4.out)) gb222 (Nat.le_of_eq hg.symm)) hb)
   have n1_ := zM (zNb (g := gb209) (o := .cells #[.slice (some ad215) l0_0.length c0_0, .slice (some ad214) l0_1.length c0_1] 46 (0, 0)) (by (with_reducible repeat (first | apply zNn | apply zNd | apply zNa)); exact BK209.out) hb)
   have n2_ := zM (zNb (g := gb218) (o := .cells #[.string ((rd_T94 l0_0 ((rd_T97 l0_1 x5_1).f0)).f0), .int .i64 ((rd_T94 l0_0 ((rd_T97 l0_1 x5_1).f0)).f1), .int .i64 ((rd_T94 l0_0 ((rd_T97 l0_1 x5_1).f0)).f2)] 94 (0, 0)) (by (with_reducible repeat (first | apply zNn | apply zNd | apply zNa)); exact BK218.out) hb)
   have n3_ := zM (zNb (g := gb219) (o := .cells #[.string ((rd_T94 l0_0 ((rd_T97 l0_1 x5_1).f1)).f0), .int .i64 ((rd_T94 l0_0 ((rd_T97 l0_1 x5_1).f1)).f1), .int .i64 ((rd_T94 l0_0 ((rd_T97 l0_1 x5_1).f1)).f2)] 94 (0, 0)) (by (with_reducible repeat (first | apply zNn | apply zNd | apply zNa)); exact BK219.out) hb)
   have n4_ := zM (below_step (by repeat (first | (with_reducible first | exact HB.out | apply zBa | apply zBn | apply zBd | refine zBs ?_ GE209.out | refine zBs ?_ GE218.out | refine zBs ?_ GE219.out) | exact HB.out)) hb)
   have n5_ := zM (hbox)
   have n6_ := zM ((by rw [hg]; exact (below_size (by repeat (first | (with_reducible first | exact HB.out | apply zBa | apply zBn | apply zBd | refine zBs ?_ GE209.out | refine zBs ?_ GE218.out | refine zBs ?_ GE219.out) | exact HB.out))) : w.heap.size ≤ gb222))
   have n7_ := zM ((by rw [hg]; exact (below_size (by repeat (first | (with_reducible first | exact HB.out | apply zBa | apply zBn | apply zBd | refine zBs ?_ GE209.out | refine zBs ?_ GE218.out | refine zBs ?_ GE219.out) | exact HB.out))) : w.heap.size ≤ gb222))
   have n8_ := zM ((by rw [hg]; exact Nat.ne_of_lt (by simpa using blk_lt BK209.out) : gb209 ≠ gb222))
   have n9_ := zM ((by rw [hg]; exact Nat.ne_of_gt (by simpa using blk_lt BK209.out) : gb222 ≠ gb209))
   have n10_ := zM ((by rw [hg]; exact Nat.ne_of_lt (by simpa using blk_lt BK218.out) : gb218 ≠ gb222))
   have n11_ := zM ((by rw [hg]; exact Nat.ne_of_gt (by simpa using blk_lt BK218.out) : gb222 ≠ gb218))
   have n12_ := zM ((by rw [hg]; exact Nat.ne_of_lt (by simpa using blk_lt BK219.out) : gb219 ≠ gb222))
   have n13_ := zM ((by rw [hg]; exact Nat.ne_of_gt (by simpa using blk_lt BK219.out) : gb222 ≠ gb219))
   clear HO_4
   clear BK209
   clear BK218
   clear BK219
   clear HB
   have HO_4 := n0_
   have BK209 := n1_
   have BK218 := n2_
   have BK219 := n3_
   have HB := n4_
   have BK222 := n5_
   have GW222 := n6_
   have GE222 := n7_
   have NB209_222 := n8_
   have NB222_209 := n9_
   have NB218_222 := n10_
   have NB222_218 := n11_
   have NB219_222 := n12_
   have NB222_219 := n13_
   clear n0_ n1_ n2_ n3_ n4_ n5_ n6_ n7_ n8_ n9_ n10_ n11_ n12_ n13_
   clear hb hbox hg
   refine hK.out _ _ ⟨(blk_cell BK209.out 0).trans rfl, (blk_cell BK209.out 1).trans rfl, ((HB.out.cell (zW w _ hw220_0)).trans hw220_0), ((HB.out.cell (zW w _ hw220_1)).trans hw220_1), ((HB.out.cell (zW w _ hw221_0)).trans hw221_0), ((HB.out.cell (zW w _ hw221_1)).trans hw221_1)⟩ (fun hHeld => ?_)
   clear hK K
   refine norm_ (a' := ?_) ?_ ?_
   rotate_left
   ·show Act.put _ (some 8) _ = _
    simp only [Act.put, zS1, zS2, zS3, i64_w, i32_w]
    rfl
   refine one_ (i := 14) (N := none) #[zt,zt,zt,zt,zt,zt,zt,zt,zt,zt,zt,zt,zt,zt,zt] rfl rfl (one_of HT_.out (by kernel_rfl)) (by decide) (fun K hK => ?_)
   have hs30 : w29.cell? ⟨gb222, 0, none⟩ = some (.int .i64 0) := (blk_cell BK222.out 0).trans rfl
   have hfs30 := blk_frozen BK222.out 0
   have hns30_0 := NB209_222.out
   have hns30_1 := NB218_222.out
   have hns30_2 := NB219_222.out
   have hms30_0 := NB222_209.out
   have hms30_1 := NB222_218.out
   have hms30_2 := NB222_219.out
   have hs31 : w29.cell? ⟨gb222, 1, none⟩ = some (.int .i64 0) := (blk_cell BK222.out 1).trans rfl
   have hfs31 := blk_frozen BK222.out 1
   have hns31_0 := NB209_222.out
   have hns31_1 := NB218_222.out
   have hns31_2 := NB219_222.out
   have hms31_0 := NB222_209.out
   have hms31_1 := NB222_218.out
   have hms31_2 := NB222_219.out
   have hs32 : w29.cell? ⟨gb222, 2, none⟩ = some (.int .i64 0) := (blk_cell BK222.out 2).trans rfl
   have hfs32 := blk_frozen BK222.out 2
   have hns32_0 := NB209_222.out
   have hns32_1 := NB218_222.out
   have hns32_2 := NB219_222.out
   have hms32_0 := NB222_209.out
   have hms32_1 := NB222_218.out
   have hms32_2 := NB222_219.out
   have hs33 : w29.cell? ⟨gb222, 3, none⟩ = some (.int .i64 0) := (blk_cell BK222.out 3).trans rfl
   have hfs33 := blk_frozen BK222.out 3
   have hns33_0 := NB209_222.out
   have hns33_1 := NB218_222.out
   have hns33_2 := NB219_222.out
   have hms33_0 := NB222_209.out
   have hms33_1 := NB222_218.out
   have hms33_2 := NB222_219.out
   have hs34 : w29.cell? ⟨gb222, 4, none⟩ = some (.int .i64 0) := (blk_cell BK222.out 4).trans rfl
   have hfs34 := blk_frozen BK222.out 4
   have hns34_0 := NB209_222.out
   have hns34_1 := NB218_222.out
   have hns34_2 := NB219_222.out
   have hms34_0 := NB222_209.out
   have hms34_1 := NB222_218.out
   have hms34_2 := NB222_219.out
   refine skip_ (w1 := ?_) (by rfl) rfl ?_ ?_
   rotate_left
   ·go_simp
    rfl
   refine hK.out _ _ ⟨((cell_far (p := ⟨gb222, _, none⟩) NB209_222.out _).trans (((cell_far (p := ⟨gb222, _, none⟩) NB209_222.out _).trans (((cell_far (p := ⟨gb222, _, none⟩) NB209_222.out _).trans (((cell_far (p := ⟨gb222, _, none⟩) NB209_222.out _).trans (((cell_far (p := ⟨gb222, _, none⟩) NB209_222.out _).trans (hHeld.1)))))))))), ((cell_far (p := ⟨gb222, _, none⟩) NB209_222.out _).trans (((cell_far (p := ⟨gb222, _, none⟩) NB209_222.out _).trans (((cell_far (p := ⟨gb222, _, none⟩) NB209_222.out _).trans (((cell_far (p := ⟨gb222, _, none⟩) NB209_222.out _).trans (((cell_far (p := ⟨gb222, _, none⟩) NB209_222.out _).trans (hHeld.2.1)))))))))), ((cell_far (p := ⟨gb222, _, none⟩) (by first | exact Nat.ne_of_lt (Nat.lt_of_lt_of_le (by have := zW _ _ hw220_0; first | rwa [add_block] at this | exact this) GW222.out) | (rw [add_block]; exact Nat.ne_of_lt (Nat.lt_of_lt_of_le (by have := zW _ _ hw220_0; first | rwa [add_block] at this | exact this) GW222.out)) | (show (Addr.add _ _).block ≠ _; rw [add_block]; exact Nat.ne_of_lt (Nat.lt_of_lt_of_le (by have := zW _ _ hw220_0; first | rwa [add_block] at this | exact this) GW222.out)) | (dsimp only; exact Nat.ne_of_lt (Nat.lt_of_lt_of_le (by have := zW _ _ hw220_0; first | rwa [add_block] at this | exact this) GW222.out))) _).trans (((cell_far (p := ⟨gb222, _, none⟩) (by first | exact Nat.ne_of_lt (Nat.lt_of_lt_of_le (by have := zW _ _ hw220_0; first | rwa [add_block] at this | exact this) GW222.out) | (rw [add_block]; exact Nat.ne_of_lt (Nat.lt_of_lt_of_le (by have := zW _ _ hw220_0; first | rwa [add_block] at this | exact this) GW222.out)) | (show (Addr.add _ _).block ≠ _; rw [add_block]; exact Nat.ne_of_lt (Nat.lt_of_lt_of_le (by have := zW _ _ hw220_0; first | rwa [add_block] at this | exact this) GW222.out)) | (dsimp only; exact Nat.ne_of_lt (Nat.lt_of_lt_of_le (by have := zW _ _ hw220_0; first | rwa [add_block] at this | exact this) GW222.out))) _).trans (((cell_far (p := ⟨gb222, _, none⟩) (by first | exact Nat.ne_of_lt (Nat.lt_of_lt_of_le (by have := zW _ _ hw220_0; first | rwa [add_block] at this | exact this) GW222.out) | (rw [add_block]; exact Nat.ne_of_lt (Nat.lt_of_lt_of_le (by have := zW _ _ hw220_0; first | rwa [add_block] at this | exact this) GW222.out)) | (show (Addr.add _ _).block ≠ _; rw [add_block]; exact Nat.ne_of_lt (Nat.lt_of_lt_of_le (by have := zW _ _ hw220_0; first | rwa [add_block] at this | exact this) GW222.out)) | (dsimp only; exact Nat.ne_of_lt (Nat.lt_of_lt_of_le (by have := zW _ _ hw220_0; first | rwa [add_block] at this | exact this) GW222.out))) _).trans (((cell_far (p := ⟨gb222, _, none⟩) (by first | exact Nat.ne_of_lt (Nat.lt_of_lt_of_le (by have := zW _ _ hw220_0; first | rwa [add_block] at this | exact this) GW222.out) | (rw [add_block]; exact Nat.ne_of_lt (Nat.lt_of_lt_of_le (by have := zW _ _ hw220_0; first | rwa [add_block] at this | exact this) GW222.out)) | (show (Addr.add _ _).block ≠ _; rw [add_block]; exact Nat.ne_of_lt (Nat.lt_of_lt_of_le (by have := zW _ _ hw220_0; first | rwa [add_block] at this | exact this) GW222.out)) | (dsimp only; exact Nat.ne_of_lt (Nat.lt_of_lt_of_le (by have := zW _ _ hw220_0; first | rwa [add_block] at this | exact this) GW222.out))) _).trans (((cell_far (p := ⟨gb222, _, none⟩) (by first | exact Nat.ne_of_lt (Nat.lt_of_lt_of_le (by have := zW _ _ hw220_0; first | rwa [add_block] at this | exact this) GW222.out) | (rw [add_block]; exact Nat.ne_of_lt (Nat.lt_of_lt_of_le (by have := zW _ _ hw220_0; first | rwa [add_block] at this | exact this) GW222.out)) | (show (Addr.add _ _).block ≠ _; rw [add_block]; exact Nat.ne_of_lt (Nat.lt_of_lt_of_le (by have := zW _ _ hw220_0; first | rwa [add_block] at this | exact this) GW222.out)) | (dsimp only; exact Nat.ne_of_lt (Nat.lt_of_lt_of_le (by have := zW _ _ hw220_0; first | rwa [add_block] at this | exact this) GW222.out))) _).trans (hHeld.2.2.1)))))))))), ((cell_far (p := ⟨gb222, _, none⟩) (by first | exact Nat.ne_of_lt (Nat.lt_of_lt_of_le (by have := zW _ _ hw220_1; first | rwa [add_block] at this | exact this) GW222.out) | (rw [add_block]; exact Nat.ne_of_lt (Nat.lt_of_lt_of_le (by have := zW _ _ hw220_1; first | rwa [add_block] at this | exact this) GW222.out)) | (show (Addr.add _ _).block ≠ _; rw [add_block]; exact Nat.ne_of_lt (Nat.lt_of_lt_of_le (by have := zW _ _ hw220_1; first | rwa [add_block] at this | exact this) GW222.out)) | (dsimp only; exact Nat.ne_of_lt (Nat.lt_of_lt_of_le (by have := zW _ _ hw220_1; first | rwa [add_block] at this | exact this) GW222.out))) _).trans (((cell_far (p := ⟨gb222, _, none⟩) (by first | exact Nat.ne_of_lt (Nat.lt_of_lt_of_le (by have := zW _ _ hw220_1; first | rwa [add_block] at this | exact this) GW222.out) | (rw [add_block]; exact Nat.ne_of_lt (Nat.lt_of_lt_of_le (by have := zW _ _ hw220_1; first | rwa [add_block] at this | exact this) GW222.out)) | (show (Addr.add _ _).block ≠ _; rw [add_block]; exact Nat.ne_of_lt (Nat.lt_of_lt_of_le (by have := zW _ _ hw220_1; first | rwa [add_block] at this | exact this) GW222.out)) | (dsimp only; exact Nat.ne_of_lt (Nat.lt_of_lt_of_le (by have := zW _ _ hw220_1; first | rwa [add_block] at this | exact this) GW222.out))) _).trans (((cell_far (p := ⟨gb222, _, none⟩) (by first | exact Nat.ne_of_lt (Nat.lt_of_lt_of_le (by have := zW _ _ hw220_1; first | rwa [add_block] at this | exact this) GW222.out) | (rw [add_block]; exact Nat.ne_of_lt (Nat.lt_of_lt_of_le (by have := zW _ _ hw220_1; first | rwa [add_block] at this | exact this) GW222.out)) | (show (Addr.add _ _).block ≠ _; rw [add_block]; exact Nat.ne_of_lt (Nat.lt_of_lt_of_le (by have := zW _ _ hw220_1; first | rwa [add_block] at this | exact this) GW222.out)) | (dsimp only; exact Nat.ne_of_lt (Nat.lt_of_lt_of_le (by have := zW _ _ hw220_1; first | rwa [add_block] at this | exact this) GW222.out))) _).trans (((cell_far (p := ⟨gb222, _, none⟩) (by first | exact Nat.ne_of_lt (Nat.lt_of_lt_of_le (by have := zW _ _ hw220_1; first | rwa [add_block] at this | exact this) GW222.out) | (rw [add_block]; exact Nat.ne_of_lt (Nat.lt_of_lt_of_le (by have := zW _ _ hw220_1; first | rwa [add_block] at this | exact this) GW222.out)) | (show (Addr.add _ _).block ≠ _; rw [add_block]; exact Nat.ne_of_lt (Nat.lt_of_lt_of_le (by have := zW _ _ hw220_1; first | rwa [add_block] at this | exact this) GW222.out)) | (dsimp only; exact Nat.ne_of_lt (Nat.lt_of_lt_of_le (by have := zW _ _ hw220_1; first | rwa [add_block] at this | exact this) GW222.out))) _).trans (((cell_far (p := ⟨gb222, _, none⟩) (by first | exact Nat.ne_of_lt (Nat.lt_of_lt_of_le (by have := zW _ _ hw220_1; first | rwa [add_block] at this | exact this) GW222.out) | (rw [add_block]; exact Nat.ne_of_lt (Nat.lt_of_lt_of_le (by have := zW _ _ hw220_1; first | rwa [add_block] at this | exact this) GW222.out)) | (show (Addr.add _ _).block ≠ _; rw [add_block]; exact Nat.ne_of_lt (Nat.lt_of_lt_of_le (by have := zW _ _ hw220_1; first | rwa [add_block] at this | exact this) GW222.out)) | (dsimp only; exact Nat.ne_of_lt (Nat.lt_of_lt_of_le (by have := zW _ _ hw220_1; first | rwa [add_block] at this | exact this) GW222.out))) _).trans (hHeld.2.2.2.1)))))))))), ((cell_far (p := ⟨gb222, _, none⟩) (by first | exact Nat.ne_of_lt (Nat.lt_of_lt_of_le (by have := zW _ _ hw221_0; first | rwa [add_block] at this | exact this) GW222.out) | (rw [add_block]; exact Nat.ne_of_lt (Nat.lt_of_lt_of_le (by have := zW _ _ hw221_0; first | rwa [add_block] at this | exact this) GW222.out)) | (show (Addr.add _ _).block ≠ _; rw [add_block]; exact Nat.ne_of_lt (Nat.lt_of_lt_of_le (by have := zW _ _ hw221_0; first | rwa [add_block] at this | exact this) GW222.out)) | (dsimp only; exact Nat.ne_of_lt (Nat.lt_of_lt_of_le (by have := zW _ _ hw221_0; first | rwa [add_block] at this | exact this) GW222.out))) _).trans (((cell_far (p := ⟨gb222, _, none⟩) (by first | exact Nat.ne_of_lt (Nat.lt_of_lt_of_le (by have := zW _ _ hw221_0; first | rwa [add_block] at this | exact this) GW222.out) | (rw [add_block]; exact Nat.ne_of_lt (Nat.lt_of_lt_of_le (by have := zW _ _ hw221_0; first | rwa [add_block] at this | exact this) GW222.out)) | (show (Addr.add _ _).block ≠ _; rw [add_block]; exact Nat.ne_of_lt (Nat.lt_of_lt_of_le (by have := zW _ _ hw221_0; first | rwa [add_block] at this | exact this) GW222.out)) | (dsimp only; exact Nat.ne_of_lt (Nat.lt_of_lt_of_le (by have := zW _ _ hw221_0; first | rwa [add_block] at this | exact this) GW222.out))) _).trans (((cell_far (p := ⟨gb222, _, none⟩) (by first | exact Nat.ne_of_lt (Nat.lt_of_lt_of_le (by have := zW _ _ hw221_0; first | rwa [add_block] at this | exact this) GW222.out) | (rw [add_block]; exact Nat.ne_of_lt (Nat.lt_of_lt_of_le (by have := zW _ _ hw221_0; first | rwa [add_block] at this | exact this) GW222.out)) | (show (Addr.add _ _).block ≠ _; rw [add_block]; exact Nat.ne_of_lt (Nat.lt_of_lt_of_le (by have := zW _ _ hw221_0; first | rwa [add_block] at this | exact this) GW222.out)) | (dsimp only; exact Nat.ne_of_lt (Nat.lt_of_lt_of_le (by have := zW _ _ hw221_0; first | rwa [add_block] at this | exact this) GW222.out))) _).trans (((cell_far (p := ⟨gb222, _, none⟩) (by first | exact Nat.ne_of_lt (Nat.lt_of_lt_of_le (by have := zW _ _ hw221_0; first | rwa [add_block] at this | exact this) GW222.out) | (rw [add_block]; exact Nat.ne_of_lt (Nat.lt_of_lt_of_le (by have := zW _ _ hw221_0; first | rwa [add_block] at this | exact this) GW222.out)) | (show (Addr.add _ _).block ≠ _; rw [add_block]; exact Nat.ne_of_lt (Nat.lt_of_lt_of_le (by have := zW _ _ hw221_0; first | rwa [add_block] at this | exact this) GW222.out)) | (dsimp only; exact Nat.ne_of_lt (Nat.lt_of_lt_of_le (by have := zW _ _ hw221_0; first | rwa [add_block] at this | exact this) GW222.out))) _).trans (((cell_far (p := ⟨gb222, _, none⟩) (by first | exact Nat.ne_of_lt (Nat.lt_of_lt_of_le (by have := zW _ _ hw221_0; first | rwa [add_block] at this | exact this) GW222.out) | (rw [add_block]; exact Nat.ne_of_lt (Nat.lt_of_lt_of_le (by have := zW _ _ hw221_0; first | rwa [add_block] at this | exact this) GW222.out)) | (show (Addr.add _ _).block ≠ _; rw [add_block]; exact Nat.ne_of_lt (Nat.lt_of_lt_of_le (by have := zW _ _ hw221_0; first | rwa [add_block] at this | exact this) GW222.out)) | (dsimp only; exact Nat.ne_of_lt (Nat.lt_of_lt_of_le (by have := zW _ _ hw221_0; first | rwa [add_block] at this | exact this) GW222.out))) _).trans (hHeld.2.2.2.2.1)))))))))), ((cell_far (p := ⟨gb222, _, none⟩) (by first | exact Nat.ne_of_lt (Nat.lt_of_lt_of_le (by have := zW _ _ hw221_1; first | rwa [add_block] at this | exact this) GW222.out) | (rw [add_block]; exact Nat.ne_of_lt (Nat.lt_of_lt_of_le (by have := zW _ _ hw221_1; first | rwa [add_block] at this | exact this) GW222.out)) | (show (Addr.add _ _).block ≠ _; rw [add_block]; exact Nat.ne_of_lt (Nat.lt_of_lt_of_le (by have := zW _ _ hw221_1; first | rwa [add_block] at this | exact this) GW222.out)) | (dsimp only; exact Nat.ne_of_lt (Nat.lt_of_lt_of_le (by have := zW _ _ hw221_1; first | rwa [add_block] at this | exact this) GW222.out))) _).trans (((cell_far (p := ⟨gb222, _, none⟩) (by first | exact Nat.ne_of_lt (Nat.lt_of_lt_of_le (by have := zW _ _ hw221_1; first | rwa [add_block] at this | exact this) GW222.out) | (rw [add_block]; exact Nat.ne_of_lt (Nat.lt_of_lt_of_le (by have := zW _ _ hw221_1; first | rwa [add_block] at this | exact this) GW222.out)) | (show (Addr.add _ _).block ≠ _; rw [add_block]; exact Nat.ne_of_lt (Nat.lt_of_lt_of_le (by have := zW _ _ hw221_1; first | rwa [add_block] at this | exact this) GW222.out)) | (dsimp only; exact Nat.ne_of_lt (Nat.lt_of_lt_of_le (by have := zW _ _ hw221_1; first | rwa [add_block] at this | exact this) GW222.out))) _).trans (((cell_far (p := ⟨gb222, _, none⟩) (by first | exact Nat.ne_of_lt (Nat.lt_of_lt_of_le (by have := zW _ _ hw221_1; first | rwa [add_block] at this | exact this) GW222.out) | (rw [add_block]; exact Nat.ne_of_lt (Nat.lt_of_lt_of_le (by have := zW _ _ hw221_1; first | rwa [add_block] at this | exact this) GW222.out)) | (show (Addr.add _ _).block ≠ _; rw [add_block]; exact Nat.ne_of_lt (Nat.lt_of_lt_of_le (by have := zW _ _ hw221_1; first | rwa [add_block] at this | exact this) GW222.out)) | (dsimp only; exact Nat.ne_of_lt (Nat.lt_of_lt_of_le (by have := zW _ _ hw221_1; first | rwa [add_block] at this | exact this) GW222.out))) _).trans (((cell_far (p := ⟨gb222, _, none⟩) (by first | exact Nat.ne_of_lt (Nat.lt_of_lt_of_le (by have := zW _ _ hw221_1; first | rwa [add_block] at this | exact this) GW222.out) | (rw [add_block]; exact Nat.ne_of_lt (Nat.lt_of_lt_of_le (by have := zW _ _ hw221_1; first | rwa [add_block] at this | exact this) GW222.out)) | (show (Addr.add _ _).block ≠ _; rw [add_block]; exact Nat.ne_of_lt (Nat.lt_of_lt_of_le (by have := zW _ _ hw221_1; first | rwa [add_block] at this | exact this) GW222.out)) | (dsimp only; exact Nat.ne_of_lt (Nat.lt_of_lt_of_le (by have := zW _ _ hw221_1; first | rwa [add_block] at this | exact this) GW222.out))) _).trans (((cell_far (p := ⟨gb222, _, none⟩) (by first | exact Nat.ne_of_lt (Nat.lt_of_lt_of_le (by have := zW _ _ hw221_1; first | rwa [add_block] at this | exact this) GW222.out) | (rw [add_block]; exact Nat.ne_of_lt (Nat.lt_of_lt_of_le (by have := zW _ _ hw221_1; first | rwa [add_block] at this | exact this) GW222.out)) | (show (Addr.add _ _).block ≠ _; rw [add_block]; exact Nat.ne_of_lt (Nat.lt_of_lt_of_le (by have := zW _ _ hw221_1; first | rwa [add_block] at this | exact this) GW222.out)) | (dsimp only; exact Nat.ne_of_lt (Nat.lt_of_lt_of_le (by have := zW _ _ hw221_1; first | rwa [add_block] at this | exact this) GW222.out))) _).trans (hHeld.2.2.2.2.2))))))))))⟩ (fun hHeld => ?_)
   clear hK K
   refine done_ (done_of HT_.out (by kernel_rfl)) ?_
   have hnb35 := NB218_209.out
   have hnc35 := NB209_218.out
   have hnb36 := NB218_219.out
   have hnc36 := NB219_218.out
   have hnb37 := NB218_222.out
   have hnc37 := NB222_218.out
   obtain ⟨hcz38_0, hcz38_1, hcz38_2, hfz38_0, hfz38_1, hfz38_2⟩ := zc3 BK218.out
   go_upto_if 56 with (fail)
   go_cut [] (fun wc => ∃ (kq : Nat) (x223002_14 : Int), Aside0 (spec_Wiring.j1 kq x4_1 x5_1 l0_0 l0_1 ((rd_T94 l0_0 ((rd_T97 l0_1 x5_1).f0)).f0) ((rd_T94 l0_0 ((rd_T97 l0_1 x5_1).f0)).f1) ((rd_T94 l0_0 ((rd_T97 l0_1 x5_1).f0)).f2) ((rd_T94 l0_0 ((rd_T97 l0_1 x5_1).f1)).f0) ((rd_T94 l0_0 ((rd_T97 l0_1 x5_1).f1)).f1) ((rd_T94 l0_0 ((rd_T97 l0_1 x5_1).f1)).f2) ((rd_T97 l0_1 x5_1).f0) ((rd_T97 l0_1 x5_1).f1) x223002_14 1 0 = some (r1, r2)) ∧ Aside0 (kq ≤ k1) ∧ Aside0 (Kd.R k80 80 wc w.heap.size (fun k_ => k_ ≠ gb222) u4 x4_1) ∧ Aside0 (wc.heap[gb209]? = some (.cells #[(.slice (some ad215) l0_0.length c0_0), (.slice (some ad214) l0_1.length c0_1)] 46 (0, 0))) ∧ Aside0 (wc.heap[gb218]? = some (.cells #[.string ((rd_T94 l0_0 ((rd_T97 l0_1 x5_1).f0)).f0), .int .i64 ((rd_T94 l0_0 ((rd_T97 l0_1 x5_1).f0)).f1), .int .i64 ((rd_T94 l0_0 ((rd_T97 l0_1 x5_1).f0)).f2)] 94 (0, 0))) ∧ Aside0 (wc.heap[gb219]? = some (.cells #[.string ((rd_T94 l0_0 ((rd_T97 l0_1 x5_1).f1)).f0), .int .i64 ((rd_T94 l0_0 ((rd_T97 l0_1 x5_1).f1)).f1), .int .i64 ((rd_T94 l0_0 ((rd_T97 l0_1 x5_1).f1)).f2)] 94 (0, 0))) ∧ Aside0 (wc.heap[gb222]? = some (.cells #[.int .i64 ((rd_T97 l0_1 x5_1).f0), .int .i64 ((rd_T97 l0_1 x5_1).f1), .int .i64 x223002_14, .int .i64 1, .int .i64 0] 80 (0, 0))) ∧ Aside0 (Below w.heap.size w wc))
   case first =>
    have H := HC15.out
    clear HC15
    by_cases c39 : ((rd_T94 l0_0 ((rd_T97 l0_1 x5_1).f0)).f1) = 6
    case neg =>
     rw [if_neg c39] at H
     have c39b0 : (((rd_T94 l0_0 ((rd_T97 l0_1 x5_1).f0)).f1) == 6) = false := beq_eq_false_iff_ne.mpr c39
     have c39b1 : (((rd_T94 l0_0 ((rd_T97 l0_1 x5_1).f0)).f1) != 6) = true := bne_iff_ne.mpr c39
     (first | rw [c39b0] | (simp only [i64_w, i32_w]; rw [c39b0]) | skip)
     have H' := zM H
     clear H
     go_wp2
     go_meet
     case rel => exact ⟨_, (1), H', ⟨by have := HK1.out; first | omega | exact Nat.le_refl _⟩, ⟨by (with_reducible repeat (first | apply zRa | apply zRn | apply zRd)); exact Kd.R_mono (Kd.R_far (p := ⟨gb222, 4, none⟩) (Kd.R_far (p := ⟨gb222, 3, none⟩) (Kd.R_far (p := ⟨gb222, 2, none⟩) (Kd.R_far (p := ⟨gb222, 1, none⟩) (Kd.R_far (p := ⟨gb222, 0, none⟩) (Kd.R_mono HO_4.out (fun k_ hk => (⟨hk, hk.2⟩ : _ ∧ k_ ≠ gb222))) (fun _ hk => hk.2) (.int .i64 ((rd_T97 l0_1 x5_1).f0))) (fun _ hk => hk.2) (.int .i64 ((rd_T97 l0_1 x5_1).f1))) (fun _ hk => hk.2) (.int .i64 1)) (fun _ hk => hk.2) (.int .i64 1)) (fun _ hk => hk.2) (.int .i64 0)) (fun _ hk => hk.1.2)⟩, ⟨by (with_reducible repeat (first | apply zNn | apply zNd | apply zNa)); refine zNf ?_ NB209_222.out _; (with_reducible repeat (first | apply zNn | apply zNd | apply zNa)); refine zNf ?_ NB209_222.out _; (with_reducible repeat (first | apply zNn | apply zNd | apply zNa)); refine zNf ?_ NB209_222.out _; (with_reducible repeat (first | apply zNn | apply zNd | apply zNa)); refine zNf ?_ NB209_222.out _; (with_reducible repeat (first | apply zNn | apply zNd | apply zNa)); refine zNf ?_ NB209_222.out _; (with_reducible repeat (first | apply zNn | apply zNd | apply zNa)); exact BK209.out⟩, ⟨by (with_reducible repeat (first | apply zNn | apply zNd | apply zNa)); refine zNf ?_ NB218_222.out _; (with_reducible repeat (first | apply zNn | apply zNd | apply zNa)); refine zNf ?_ NB218_222.out _; (with_reducible repeat (first | apply zNn | apply zNd | apply zNa)); refine zNf ?_ NB218_222.out _; (with_reducible repeat (first | apply zNn | apply zNd | apply zNa)); refine zNf ?_ NB218_222.out _; (with_reducible repeat (first | apply zNn | apply zNd | apply zNa)); refine zNf ?_ NB218_222.out _; (with_reducible repeat (first | apply zNn | apply zNd | apply zNa)); exact BK218.out⟩, ⟨by (with_reducible repeat (first | apply zNn | apply zNd | apply zNa)); refine zNf ?_ NB219_222.out _; (with_reducible repeat (first | apply zNn | apply zNd | apply zNa)); refine zNf ?_ NB219_222.out _; (with_reducible repeat (first | apply zNn | apply zNd | apply zNa)); refine zNf ?_ NB219_222.out _; (with_reducible repeat (first | apply zNn | apply zNd | apply zNa)); refine zNf ?_ NB219_222.out _; (with_reducible repeat (first | apply zNn | apply zNd | apply zNa)); refine zNf ?_ NB219_222.out _; (with_reducible repeat (first | apply zNn | apply zNd | apply zNa)); exact BK219.out⟩, ⟨by (with_reducible repeat (first | apply zNn | apply zNd | apply zNa)); refine blk_put (cs := #[.int .i64 ((rd_T97 l0_1 x5_1).f0), .int .i64 ((rd_T97 l0_1 x5_1).f1), .int .i64 1, .int .i64 1, .int .i64 0]) ?_ 4 _ rfl; (with_reducible repeat (first | apply zNn | apply zNd | apply zNa)); refine blk_put (cs := #[.int .i64 ((rd_T97 l0_1 x5_1).f0), .int .i64 ((rd_T97 l0_1 x5_1).f1), .int .i64 1, .int .i64 0, .int .i64 0]) ?_ 3 _ rfl; (with_reducible repeat (first | apply zNn | apply zNd | apply zNa)); refine blk_put (cs := #[.int .i64 ((rd_T97 l0_1 x5_1).f0), .int .i64 ((rd_T97 l0_1 x5_1).f1), .int .i64 0, .int .i64 0, .int .i64 0]) ?_ 2 _ rfl; (with_reducible repeat (first | apply zNn | apply zNd | apply zNa)); refine blk_put (cs := #[.int .i64 ((rd_T97 l0_1 x5_1).f0), .int .i64 0, .int .i64 0, .int .i64 0, .int .i64 0]) ?_ 1 _ rfl; (with_reducible repeat (first | apply zNn | apply zNd | apply zNa)); refine blk_put (cs := #[.int .i64 0, .int .i64 0, .int .i64 0, .int .i64 0, .int .i64 0]) ?_ 0 _ rfl; (with_reducible repeat (first | apply zNn | apply zNd | apply zNa)); exact BK222.out⟩, ⟨by repeat (first | (with_reducible first | exact HB.out | apply zBa | apply zBn | apply zBd | refine zBs ?_ GE209.out | refine zBs ?_ GE218.out | refine zBs ?_ GE219.out | refine zBs ?_ GE222.out) | exact HB.out)⟩⟩
    rw [if_pos c39] at H
    have c39b0 : (((rd_T94 l0_0 ((rd_T97 l0_1 x5_1).f0)).f1) == 6) = true := beq_iff_eq.mpr c39
    have c39b1 : (((rd_T94 l0_0 ((rd_T97 l0_1 x5_1).f0)).f1) != 6) = false := bne_eq_false_iff_eq.mpr c39
    clear c39
    (first | rw [c39b0] | (simp only [i64_w, i32_w]; rw [c39b0]) | skip)
    have H' := zM H
    clear H
    have hnb40 := NB218_209.out
    have hnc40 := NB209_218.out
    have hnb41 := NB218_219.out
    have hnc41 := NB219_218.out
    have hnb42 := NB218_222.out
    have hnc42 := NB222_218.out
    obtain ⟨hcz43_0, hcz43_1, hcz43_2, hfz43_0, hfz43_1, hfz43_2⟩ := zc3 BK218.out
    have hnb44 := NB222_209.out
    have hnc44 := NB209_222.out
    have hnb45 := NB222_219.out
    have hnc45 := NB219_222.out
    obtain ⟨hcz46_0, hcz46_1, hcz46_2, hcz46_3, hcz46_4, hfz46_0, hfz46_1, hfz46_2, hfz46_3, hfz46_4⟩ := zc5 BK222.out
    go_wp2
    go_meet
    case rel => exact ⟨_, ((rd_T94 l0_0 ((rd_T97 l0_1 x5_1).f0)).f2), H', ⟨by have := HK1.out; first | omega | exact Nat.le_refl _⟩, ⟨by (with_reducible repeat (first | apply zRa | apply zRn | apply zRd)); exact Kd.R_mono (Kd.R_far (p := ⟨gb222, 2, none⟩) (Kd.R_far (p := ⟨gb222, 4, none⟩) (Kd.R_far (p := ⟨gb222, 3, none⟩) (Kd.R_far (p := ⟨gb222, 2, none⟩) (Kd.R_far (p := ⟨gb222, 1, none⟩) (Kd.R_far (p := ⟨gb222, 0, none⟩) (Kd.R_mono HO_4.out (fun k_ hk => (⟨hk, hk.2⟩ : _ ∧ k_ ≠ gb222))) (fun _ hk => hk.2) (.int .i64 ((rd_T97 l0_1 x5_1).f0))) (fun _ hk => hk.2) (.int .i64 ((rd_T97 l0_1 x5_1).f1))) (fun _ hk => hk.2) (.int .i64 1)) (fun _ hk => hk.2) (.int .i64 1)) (fun _ hk => hk.2) (.int .i64 0)) (fun _ hk => hk.2) (.int .i64 ((rd_T94 l0_0 ((rd_T97 l0_1 x5_1).f0)).f2))) (fun _ hk => hk.1.2)⟩, ⟨by (with_reducible repeat (first | apply zNn | apply zNd | apply zNa)); refine zNf ?_ NB209_222.out _; (with_reducible repeat (first | apply zNn | apply zNd | apply zNa)); refine zNf ?_ NB209_222.out _; (with_reducible repeat (first | apply zNn | apply zNd | apply zNa)); refine zNf ?_ NB209_222.out _; (with_reducible repeat (first | apply zNn | apply zNd | apply zNa)); refine zNf ?_ NB209_222.out _; (with_reducible repeat (first | apply zNn | apply zNd | apply zNa)); refine zNf ?_ NB209_222.out _; (with_reducible repeat (first | apply zNn | apply zNd | apply zNa)); refine zNf ?_ NB209_222.out _; (with_reducible repeat (first | apply zNn | apply zNd | apply zNa)); exact BK209.out⟩, ⟨by (with_reducible repeat (first | apply zNn | apply zNd | apply zNa)); refine zNf ?_ NB218_222.out _; (with_reducible repeat (first | apply zNn | apply zNd | apply zNa)); refine zNf ?_ NB218_222.out _; (with_reducible repeat (first | apply zNn | apply zNd | apply zNa)); refine zNf ?_ NB218_222.out _; (with_reducible repeat (first | apply zNn | apply zNd | apply zNa)); refine zNf ?_ NB218_222.out _; (with_reducible repeat (first | apply zNn | apply zNd | apply zNa)); refine zNf ?_ NB218_222.out _; (with_reducible repeat (first | apply zNn | apply zNd | apply zNa)); refine zNf ?_ NB218_222.out _; (with_reducible repeat (first | apply zNn | apply zNd | apply zNa)); exact BK218.out⟩, ⟨by (with_reducible repeat (first | apply zNn | apply zNd | apply zNa)); refine zNf ?_ NB219_222.out _; (with_reducible repeat (first | apply zNn | apply zNd | apply zNa)); refine zNf ?_ NB219_222.out _; (with_reducible repeat (first | apply zNn | apply zNd | apply zNa)); refine zNf ?_ NB219_222.out _; (with_reducible repeat (first | apply zNn | apply zNd | apply zNa)); refine zNf ?_ NB219_222.out _; (with_reducible repeat (first | apply zNn | apply zNd | apply zNa)); refine zNf ?_ NB219_222.out _; (with_reducible repeat (first | apply zNn | apply zNd | apply zNa)); refine zNf ?_ NB219_222.out _; (with_reducible repeat (first | apply zNn | apply zNd | apply zNa)); exact BK219.out⟩, ⟨by (with_reducible repeat (first | apply zNn | apply zNd | apply zNa)); refine blk_put (cs := #[.int .i64 ((rd_T97 l0_1 x5_1).f0), .int .i64 ((rd_T97 l0_1 x5_1).f1), .int .i64 1, .int .i64 1, .int .i64 0]) ?_ 2 _ rfl; (with_reducible repeat (first | apply zNn | apply zNd | apply zNa)); refine blk_put (cs := #[.int .i64 ((rd_T97 l0_1 x5_1).f0), .int .i64 ((rd_T97 l0_1 x5_1).f1), .int .i64 1, .int .i64 1, .int .i64 0]) ?_ 4 _ rfl; (with_reducible repeat (first | apply zNn | apply zNd | apply zNa)); refine blk_put (cs := #[.int .i64 ((rd_T97 l0_1 x5_1).f0), .int .i64 ((rd_T97 l0_1 x5_1).f1), .int .i64 1, .int .i64 0, .int .i64 0]) ?_ 3 _ rfl; (with_reducible repeat (first | apply zNn | apply zNd | apply zNa)); refine blk_put (cs := #[.int .i64 ((rd_T97 l0_1 x5_1).f0), .int .i64 ((rd_T97 l0_1 x5_1).f1), .int .i64 0, .int .i64 0, .int .i64 0]) ?_ 2 _ rfl; (with_reducible repeat (first | apply zNn | apply zNd | apply zNa)); refine blk_put (cs := #[.int .i64 ((rd_T97 l0_1 x5_1).f0), .int .i64 0, .int .i64 0, .int .i64 0, .int .i64 0]) ?_ 1 _ rfl; (with_reducible repeat (first | apply zNn | apply zNd | apply zNa)); refine blk_put (cs := #[.int .i64 0, .int .i64 0, .int .i64 0, .int .i64 0, .int .i64 0]) ?_ 0 _ rfl; (with_reducible repeat (first | apply zNn | apply zNd | apply zNa)); exact BK222.out⟩, ⟨by repeat (first | (with_reducible first | exact HB.out | apply zBa | apply zBn | apply zBd | refine zBs ?_ GE209.out | refine zBs ?_ GE218.out | refine zBs ?_ GE219.out | refine zBs ?_ GE222.out) | exact HB.out)⟩⟩
   case rest =>
    clear HC15
    try clear p2
    try clear q2
    try clear hx2
    try clear c3
    try clear c4
    try clear p22
    try clear q22
    try clear hx22
    try clear c35
    try clear c36
    try clear c37
    try clear c39
    try clear c39b0
    try clear c39b1
    try clear c40
    try clear c41
    try clear c42
    try clear c44
    try clear c45
    try clear hcz38_0
    try clear hcz38_1
    try clear hcz38_2
    try clear hcz43_0
    try clear hcz43_1
    try clear hcz43_2
    try clear hcz46_0
    try clear hcz46_1
    try clear hcz46_2
    try clear hcz46_3
    try clear hcz46_4
    try clear hfz38_0
    try clear hfz38_1
    try clear hfz38_2
    try clear hfz43_0
    try clear hfz43_1
    try clear hfz43_2
    try clear hfz46_0
    try clear hfz46_1
    try clear hfz46_2
    try clear hfz46_3
    try clear hfz46_4
    try clear hx220_0
    try clear hx220_1
    try clear hx221_0
    try clear hx221_1
    try clear p220
    try clear p221
    try clear q220
    try clear q221
    obtain ⟨kq, x223002_14, HA, HJ14, HO_4, BK209, BK218, BK219, BK222, HB⟩ := hcut
    cases kq with
    | zero => exact absurd HA.out (by simp [spec_Wiring.j1])
    | succ kj14 =>
     have H := HA.out
     clear HA
     simp only [spec_Wiring.j1] at H
     have HC47 := zM H
     clear H
     go_upto_region 11 with (fail)
     go_cut [67] (fun v67 wc => ∃ (kq : Nat) (x67_46 : Bool), v67 = .bool x67_46 ∧ Aside0 (spec_Wiring.j2 kq x4_1 x5_1 x67_46 l0_0 l0_1 ((rd_T94 l0_0 ((rd_T97 l0_1 x5_1).f0)).f0) ((rd_T94 l0_0 ((rd_T97 l0_1 x5_1).f0)).f1) ((rd_T94 l0_0 ((rd_T97 l0_1 x5_1).f0)).f2) ((rd_T94 l0_0 ((rd_T97 l0_1 x5_1).f1)).f0) ((rd_T94 l0_0 ((rd_T97 l0_1 x5_1).f1)).f1) ((rd_T94 l0_0 ((rd_T97 l0_1 x5_1).f1)).f2) ((rd_T97 l0_1 x5_1).f0) ((rd_T97 l0_1 x5_1).f1) x223002_14 1 0 = some (r1, r2)) ∧ Aside0 (kq ≤ kj14) ∧ Aside0 (Kd.R k80 80 wc w.heap.size (fun k_ => k_ ≠ gb222) u4 x4_1) ∧ Aside0 (wc.heap[gb209]? = some (.cells #[(.slice (some ad215) l0_0.length c0_0), (.slice (some ad214) l0_1.length c0_1)] 46 (0, 0))) ∧ Aside0 (wc.heap[gb218]? = some (.cells #[.string ((rd_T94 l0_0 ((rd_T97 l0_1 x5_1).f0)).f0), .int .i64 ((rd_T94 l0_0 ((rd_T97 l0_1 x5_1).f0)).f1), .int .i64 ((rd_T94 l0_0 ((rd_T97 l0_1 x5_1).f0)).f2)] 94 (0, 0))) ∧ Aside0 (wc.heap[gb219]? = some (.cells #[.string ((rd_T94 l0_0 ((rd_T97 l0_1 x5_1).f1)).f0), .int .i64 ((rd_T94 l0_0 ((rd_T97 l0_1 x5_1).f1)).f1), .int .i64 ((rd_T94 l0_0 ((rd_T97 l0_1 x5_1).f1)).f2)] 94 (0, 0))) ∧ Aside0 (wc.heap[gb222]? = some (.cells #[.int .i64 ((rd_T97 l0_1 x5_1).f0), .int .i64 ((rd_T97 l0_1 x5_1).f1), .int .i64 x223002_14, .int .i64 1, .int .i64 0] 80 (0, 0))) ∧ Aside0 (Below w.heap.size w wc))
     case first =>
      have H := HC47.out
      clear HC47
      by_cases c48 : ((rd_T94 l0_0 ((rd_T97 l0_1 x5_1).f1)).f1) = 7
      case pos =>
       rw [if_pos c48] at H
       have c48b0 : (((rd_T94 l0_0 ((rd_T97 l0_1 x5_1).f1)).f1) == 7) = true := beq_iff_eq.mpr c48
       have c48b1 : (((rd_T94 l0_0 ((rd_T97 l0_1 x5_1).f1)).f1) != 7) = false := bne_eq_false_iff_eq.mpr c48
       clear c48
       (first | rw [c48b0] | (simp only [i64_w, i32_w]; rw [c48b0]) | skip)
       have H' := zM H
       clear H
       have hnb49 := NB219_209.out
       have hnc49 := NB209_219.out
       have hnb50 := NB219_218.out
       have hnc50 := NB218_219.out
       have hnb51 := NB219_222.out
       have hnc51 := NB222_219.out
       obtain ⟨hcz52_0, hcz52_1, hcz52_2, hfz52_0, hfz52_1, hfz52_2⟩ := zc3 BK219.out
       go_wp2
       go_meet
       case rel => exact ⟨_, (true), (by first | rfl | (simp; done) | (simp [*]; done)), H', ⟨by have := HK1.out; have := HJ14.out; first | omega | exact Nat.le_refl _⟩, ⟨by (with_reducible repeat (first | apply zRa | apply zRn | apply zRd)); first | exact HO_4.out | (subst_vars; exact HO_4.out)⟩, ⟨by (with_reducible repeat (first | apply zNn | apply zNd | apply zNa)); exact BK209.out⟩, ⟨by (with_reducible repeat (first | apply zNn | apply zNd | apply zNa)); exact BK218.out⟩, ⟨by (with_reducible repeat (first | apply zNn | apply zNd | apply zNa)); exact BK219.out⟩, ⟨by (with_reducible repeat (first | apply zNn | apply zNd | apply zNa)); exact BK222.out⟩, ⟨by repeat (first | (with_reducible first | exact HB.out | apply zBa | apply zBn | apply zBd | refine zBs ?_ GE209.out | refine zBs ?_ GE218.out | refine zBs ?_ GE219.out | refine zBs ?_ GE222.out) | exact HB.out)⟩⟩
      rw [if_neg c48] at H
      have c48b0 : (((rd_T94 l0_0 ((rd_T97 l0_1 x5_1).f1)).f1) == 7) = false := beq_eq_false_iff_ne.mpr c48
      have c48b1 : (((rd_T94 l0_0 ((rd_T97 l0_1 x5_1).f1)).f1) != 7) = true := bne_iff_ne.mpr c48
      (first | rw [c48b0] | (simp only [i64_w, i32_w]; rw [c48b0]) | skip)
      have H' := zM H
      clear H
      have hnb53 := NB219_209.out
      have hnc53 := NB209_219.out
      have hnb54 := NB219_218.out
      have hnc54 := NB218_219.out
      have hnb55 := NB219_222.out
      have hnc55 := NB222_219.out
      obtain ⟨hcz56_0, hcz56_1, hcz56_2, hfz56_0, hfz56_1, hfz56_2⟩ := zc3 BK219.out
      go_wp2
      go_meet
      case rel => exact ⟨_, ((((rd_T94 l0_0 ((rd_T97 l0_1 x5_1).f1)).f1) == 8)), (by first | rfl | (simp; done) | (simp [*]; done)), H', ⟨by have := HK1.out; have := HJ14.out; first | omega | exact Nat.le_refl _⟩, ⟨by (with_reducible repeat (first | apply zRa | apply zRn | apply zRd)); first | exact HO_4.out | (subst_vars; exact HO_4.out)⟩, ⟨by (with_reducible repeat (first | apply zNn | apply zNd | apply zNa)); exact BK209.out⟩, ⟨by (with_reducible repeat (first | apply zNn | apply zNd | apply zNa)); exact BK218.out⟩, ⟨by (with_reducible repeat (first | apply zNn | apply zNd | apply zNa)); exact BK219.out⟩, ⟨by (with_reducible repeat (first | apply zNn | apply zNd | apply zNa)); exact BK222.out⟩, ⟨by repeat (first | (with_reducible first | exact HB.out | apply zBa | apply zBn | apply zBd | refine zBs ?_ GE209.out | refine zBs ?_ GE218.out | refine zBs ?_ GE219.out | refine zBs ?_ GE222.out) | exact HB.out)⟩⟩
     case rest =>
      clear HC47
      try clear p2
      try clear q2
      try clear hx2
      try clear c3
      try clear c4
      try clear c5
      try clear p22
      try clear q22
      try clear hx22
      try clear c35
      try clear c36
      try clear c37
      try clear c39
      try clear c39b0
      try clear c39b1
      try clear c40
      try clear c41
      try clear c42
      try clear c44
      try clear c45
      try clear c48
      try clear c48b0
      try clear c48b1
      try clear c49
      try clear c50
      try clear c51
      try clear c53
      try clear c54
      try clear c55
      try clear hcz38_0
      try clear hcz38_1
      try clear hcz38_2
      try clear hcz43_0
      try clear hcz43_1
      try clear hcz43_2
      try clear hcz46_0
      try clear hcz46_1
      try clear hcz46_2
      try clear hcz46_3
      try clear hcz46_4
      try clear hcz52_0
      try clear hcz52_1
      try clear hcz52_2
      try clear hcz56_0
      try clear hcz56_1
      try clear hcz56_2
      try clear hfz38_0
      try clear hfz38_1
      try clear hfz38_2
      try clear hfz43_0
      try clear hfz43_1
      try clear hfz43_2
      try clear hfz46_0
      try clear hfz46_1
      try clear hfz46_2
      try clear hfz46_3
      try clear hfz46_4
      try clear hfz52_0
      try clear hfz52_1
      try clear hfz52_2
      try clear hfz56_0
      try clear hfz56_1
      try clear hfz56_2
      try clear hx220_0
      try clear hx220_1
      try clear hx221_0
      try clear hx221_1
      try clear p2
      try clear p22
      try clear p220
      try clear p221
      try clear q2
      try clear q22
      try clear q220
      try clear q221
      obtain ⟨kq, x67_46, rfl, HA, HJ46, HO_4, BK209, BK218, BK219, BK222, HB⟩ := hcut
      cases kq with
      | zero => exact absurd HA.out (by simp [spec_Wiring.j2])
      | succ kj46 =>
       have H := HA.out
       clear HA
       simp only [spec_Wiring.j2] at H
       by_cases c57 : x67_46 = true
       case neg =>
        replace c57 := Bool.eq_false_iff.mpr c57
        subst c57
        have H1 : (if ((rd_T94 l0_0 ((rd_T97 l0_1 x5_1).f0)).f1) = 5 then (if x4_1.length < 3518437208883 then (spec_Wiring.l0 kj46 (x4_1 ++ [(⟨((rd_T97 l0_1 x5_1).f0), ((rd_T97 l0_1 x5_1).f1), x223002_14, 1, ((rd_T94 l0_0 ((rd_T97 l0_1 x5_1).f0)).f2)⟩ : S80)]) (wrap64 (x5_1 + 1)) l0_0 l0_1) else (none)) else (if x4_1.length < 3518437208883 then (spec_Wiring.l0 kj46 (x4_1 ++ [(⟨((rd_T97 l0_1 x5_1).f0), ((rd_T97 l0_1 x5_1).f1), x223002_14, 1, 0⟩ : S80)]) (wrap64 (x5_1 + 1)) l0_0 l0_1) else (none))) = some (r1, r2) := by rw [if_neg (show ¬ (false = true) by decide)] at H; exact H
        clear H
        have H := H1
        clear H1
        by_cases c81 : ((rd_T94 l0_0 ((rd_T97 l0_1 x5_1).f0)).f1) = 5
        case neg =>
         rw [if_neg c81] at H
         have c81b0 : (((rd_T94 l0_0 ((rd_T97 l0_1 x5_1).f0)).f1) == 5) = false := beq_eq_false_iff_ne.mpr c81
         have c81b1 : (((rd_T94 l0_0 ((rd_T97 l0_1 x5_1).f0)).f1) != 5) = true := bne_iff_ne.mpr c81
         by_cases c91 : x4_1.length < 3518437208883
         case neg =>
          rw [if_neg c91] at H
          exact absurd H (by simp)
         rw [if_pos c91] at H
         have LMc91 := zM c91
         clear c91
         obtain ⟨y232, hy232⟩ : ∃ y_ : List (S80), y_ = (x4_1 ++ [(⟨((rd_T97 l0_1 x5_1).f0), ((rd_T97 l0_1 x5_1).f1), x223002_14, 1, 0⟩ : S80)]) := ⟨_, rfl⟩
         replace H : (spec_Wiring.l0 kj46 y232 (wrap64 (x5_1 + 1)) l0_0 l0_1) = some (r1, r2) := by first | (rw [hy232]; with_reducible exact H) | (have H2_ := (Option.bind_some _ _).symm.trans H; rw [hy232]; with_reducible exact H2_) | (have H2_ := (Option.bind_some _ _).symm.trans H; with_reducible exact H2_) | with_reducible exact H | (rw [hy232]; exact H) | exact H
         have Ny232 := zM hy232
         clear hy232
         have H' := zM H
         clear H
         have hnb92 := NB218_209.out
         have hnc92 := NB209_218.out
         have hnb93 := NB218_219.out
         have hnc93 := NB219_218.out
         have hnb94 := NB218_222.out
         have hnc94 := NB222_218.out
         obtain ⟨hcz95_0, hcz95_1, hcz95_2, hfz95_0, hfz95_1, hfz95_2⟩ := zc3 BK218.out
         have hnb96 := NB222_209.out
         have hnc96 := NB209_222.out
         have hnb97 := NB222_219.out
         have hnc97 := NB219_222.out
         obtain ⟨hcz98_0, hcz98_1, hcz98_2, hcz98_3, hcz98_4, hfz98_0, hfz98_1, hfz98_2, hfz98_3, hfz98_4⟩ := zc5 BK222.out
         go_wp2_with (first | ((with_reducible refine gate_builtin (b := .append) (xs := #[.tmp 77, .tmp 79]) rfl ?_); at_builtin; refine Kd.R_append k80 (w0 := w) w.heap.size rfl (.tmp 77) (.tmp 79) 27 80 (.agg #[(.int .i64 0), (.int .i64 0), (.int .i64 0), (.int .i64 0), (.int .i64 0)]) 40 rfl Try.underlying27 info80 rfl (by decide) (by omega) u4 x4_1 (⟨((rd_T97 l0_1 x5_1).f0), ((rd_T97 l0_1 x5_1).f1), x223002_14, 1, 0⟩ : S80) [.int .i64 ((rd_T97 l0_1 x5_1).f0), .int .i64 ((rd_T97 l0_1 x5_1).f1), .int .i64 x223002_14, .int .i64 1, .int .i64 0] (fun k_ => k_ ≠ gb222) (fun _ => False) rfl rfl ?aP (fun _ hk => hk.elim) ?aF ?aO ?aB ?aS ?aL ?_; (case aP => exact k80_mkM _ _ _ (⟨((rd_T97 l0_1 x5_1).f0), ((rd_T97 l0_1 x5_1).f1), x223002_14, 1, 0⟩ : S80)); (case aB => exact (by repeat (first | (with_reducible first | exact HB.out | apply zBa | apply zBn | apply zBd | refine zBs ?_ GE209.out | refine zBs ?_ GE218.out | refine zBs ?_ GE219.out | refine zBs ?_ GE222.out) | exact HB.out))); (case aF => exact (fun k_ hk => Kd.freshB (g := gb222) (o := .cells #[.int .i64 ((rd_T97 l0_1 x5_1).f0), .int .i64 ((rd_T97 l0_1 x5_1).f1), .int .i64 x223002_14, .int .i64 1, .int .i64 0] 80 (0, 0)) (by (with_reducible repeat (first | apply zNn | apply zNd | apply zNa)); exact BK222.out) k_ hk)); (case aO => exact (by (with_reducible repeat (first | apply zRa | apply zRn | apply zRd)); first | exact HO_4.out | (subst_vars; exact HO_4.out))); (case aS => exact (below_size (by repeat (first | (with_reducible first | exact HB.out | apply zBa | apply zBn | apply zBd | refine zBs ?_ GE209.out | refine zBs ?_ GE218.out | refine zBs ?_ GE219.out | refine zBs ?_ GE222.out) | exact HB.out)))); (case aL => have := LMc91.out; omega); intro v233 w99 ho hb hg hat; (first | rw [← Ny232.out] at ho | (simp only [Int.reduceToNat] at ho; rw [← Ny232.out] at ho)); have n0_ := zM (blk_grown (g := gb209) (o := .cells #[.slice (some ad215) l0_0.length c0_0, .slice (some ad214) l0_1.length c0_1] 46 (0, 0)) (by (with_reducible repeat (first | apply zNn | apply zNd | apply zNa)); exact BK209.out) hg (Kd.R_ne HO_4.out BK209.out (by decide))); have n1_ := zM (blk_grown (g := gb218) (o := .cells #[.string ((rd_T94 l0_0 ((rd_T97 l0_1 x5_1).f0)).f0), .int .i64 ((rd_T94 l0_0 ((rd_T97 l0_1 x5_1).f0)).f1), .int .i64 ((rd_T94 l0_0 ((rd_T97 l0_1 x5_1).f0)).f2)] 94 (0, 0)) (by (with_reducible repeat (first | apply zNn | apply zNd | apply zNa)); exact BK218.out) hg (Kd.R_ne HO_4.out BK218.out (by decide))); have n2_ := zM (blk_grown (g := gb219) (o := .cells #[.string ((rd_T94 l0_0 ((rd_T97 l0_1 x5_1).f1)).f0), .int .i64 ((rd_T94 l0_0 ((rd_T97 l0_1 x5_1).f1)).f1), .int .i64 ((rd_T94 l0_0 ((rd_T97 l0_1 x5_1).f1)).f2)] 94 (0, 0)) (by (with_reducible repeat (first | apply zNn | apply zNd | apply zNa)); exact BK219.out) hg (Kd.R_ne HO_4.out BK219.out (by decide))); have n3_ := zM (blk_grown (g := gb222) (o := .cells #[.int .i64 ((rd_T97 l0_1 x5_1).f0), .int .i64 ((rd_T97 l0_1 x5_1).f1), .int .i64 x223002_14, .int .i64 1, .int .i64 0] 80 (0, 0)) (by (with_reducible repeat (first | apply zNn | apply zNd | apply zNa)); exact BK222.out) hg (Kd.R_away HO_4.out (fun _ hk => hk))); have n4_ := zM (hb); have n5_ := zM (ho); clear BK209; clear BK218; clear BK219; clear BK222; clear HB; clear HO_4; have BK209 := n0_; have BK218 := n1_; have BK219 := n2_; have BK222 := n3_; have HB := n4_; have HO234 := n5_; clear n0_ n1_ n2_ n3_ n4_ n5_; clear ho hb hg hat))
         go_roundg kj46
         case measure => have := HK1.out; have := HJ14.out; have := HJ46.out; omega
         case rel => exact ⟨(y232), (wrap64 (x5_1 + 1)), (by first | rfl | (simp; done) | (simp [*]; done)), H', ⟨by have := HK1.out; have := HJ14.out; have := HJ46.out; omega⟩, ⟨by (with_reducible repeat (first | apply zRa | apply zRn | apply zRd)); first | exact Kd.R_mono HO234.out (fun _ hk => trivial) | (subst_vars; exact Kd.R_mono HO234.out (fun _ hk => trivial))⟩, ⟨by (with_reducible repeat (first | apply zNn | apply zNd | apply zNa)); exact BK209.out⟩, ⟨by repeat (first | (with_reducible first | exact HB.out | apply zBa | apply zBn | apply zBd | refine zBs ?_ GE209.out | refine zBs ?_ GE218.out | refine zBs ?_ GE219.out | refine zBs ?_ GE222.out) | exact HB.out)⟩⟩
        rw [if_pos c81] at H
        have c81b0 : (((rd_T94 l0_0 ((rd_T97 l0_1 x5_1).f0)).f1) == 5) = true := beq_iff_eq.mpr c81
        have c81b1 : (((rd_T94 l0_0 ((rd_T97 l0_1 x5_1).f0)).f1) != 5) = false := bne_eq_false_iff_eq.mpr c81
        clear c81
        by_cases c82 : x4_1.length < 3518437208883
        case neg =>
         rw [if_neg c82] at H
         exact absurd H (by simp)
        rw [if_pos c82] at H
        have LMc82 := zM c82
        clear c82
        obtain ⟨y229, hy229⟩ : ∃ y_ : List (S80), y_ = (x4_1 ++ [(⟨((rd_T97 l0_1 x5_1).f0), ((rd_T97 l0_1 x5_1).f1), x223002_14, 1, ((rd_T94 l0_0 ((rd_T97 l0_1 x5_1).f0)).f2)⟩ : S80)]) := ⟨_, rfl⟩
        replace H : (spec_Wiring.l0 kj46 y229 (wrap64 (x5_1 + 1)) l0_0 l0_1) = some (r1, r2) := by first | (rw [hy229]; with_reducible exact H) | (have H2_ := (Option.bind_some _ _).symm.trans H; rw [hy229]; with_reducible exact H2_) | (have H2_ := (Option.bind_some _ _).symm.trans H; with_reducible exact H2_) | with_reducible exact H | (rw [hy229]; exact H) | exact H
        have Ny229 := zM hy229
        clear hy229
        have H' := zM H
        clear H
        have hnb83 := NB218_209.out
        have hnc83 := NB209_218.out
        have hnb84 := NB218_219.out
        have hnc84 := NB219_218.out
        have hnb85 := NB218_222.out
        have hnc85 := NB222_218.out
        obtain ⟨hcz86_0, hcz86_1, hcz86_2, hfz86_0, hfz86_1, hfz86_2⟩ := zc3 BK218.out
        have hnb87 := NB222_209.out
        have hnc87 := NB209_222.out
        have hnb88 := NB222_219.out
        have hnc88 := NB219_222.out
        obtain ⟨hcz89_0, hcz89_1, hcz89_2, hcz89_3, hcz89_4, hfz89_0, hfz89_1, hfz89_2, hfz89_3, hfz89_4⟩ := zc5 BK222.out
        go_wp2_with (first | ((with_reducible refine gate_builtin (b := .append) (xs := #[.tmp 77, .tmp 79]) rfl ?_); at_builtin; refine Kd.R_append k80 (w0 := w) w.heap.size rfl (.tmp 77) (.tmp 79) 27 80 (.agg #[(.int .i64 0), (.int .i64 0), (.int .i64 0), (.int .i64 0), (.int .i64 0)]) 40 rfl Try.underlying27 info80 rfl (by decide) (by omega) u4 x4_1 (⟨((rd_T97 l0_1 x5_1).f0), ((rd_T97 l0_1 x5_1).f1), x223002_14, 1, ((rd_T94 l0_0 ((rd_T97 l0_1 x5_1).f0)).f2)⟩ : S80) [.int .i64 ((rd_T97 l0_1 x5_1).f0), .int .i64 ((rd_T97 l0_1 x5_1).f1), .int .i64 x223002_14, .int .i64 1, .int .i64 ((rd_T94 l0_0 ((rd_T97 l0_1 x5_1).f0)).f2)] (fun k_ => k_ ≠ gb222) (fun _ => False) rfl (by first | (go_simp; done) | (go_simp; rfl)) ?aP (fun _ hk => hk.elim) ?aF ?aO ?aB ?aS ?aL ?_; (case aP => exact k80_mkM _ _ _ (⟨((rd_T97 l0_1 x5_1).f0), ((rd_T97 l0_1 x5_1).f1), x223002_14, 1, ((rd_T94 l0_0 ((rd_T97 l0_1 x5_1).f0)).f2)⟩ : S80)); (case aB => exact (by repeat (first | (with_reducible first | exact HB.out | apply zBa | apply zBn | apply zBd | refine zBs ?_ GE209.out | refine zBs ?_ GE218.out | refine zBs ?_ GE219.out | refine zBs ?_ GE222.out) | exact HB.out))); (case aF => exact (fun k_ hk => Kd.freshB (g := gb222) (o := .cells #[.int .i64 ((rd_T97 l0_1 x5_1).f0), .int .i64 ((rd_T97 l0_1 x5_1).f1), .int .i64 x223002_14, .int .i64 1, .int .i64 ((rd_T94 l0_0 ((rd_T97 l0_1 x5_1).f0)).f2)] 80 (0, 0)) (by exact blk_put (BK222.out) 4 _ rfl) k_ hk)); (case aO => exact (by (with_reducible repeat (first | apply zRa | apply zRn | apply zRd)); exact Kd.R_mono (Kd.R_far (p := ⟨gb222, 4, none⟩) (Kd.R_mono HO_4.out (fun k_ hk => (⟨hk, hk⟩ : _ ∧ k_ ≠ gb222))) (fun _ hk => hk.2) (.int .i64 ((rd_T94 l0_0 ((rd_T97 l0_1 x5_1).f0)).f2))) (fun _ hk => hk.1))); (case aS => exact (below_size (by repeat (first | (with_reducible first | exact HB.out | apply zBa | apply zBn | apply zBd | refine zBs ?_ GE209.out | refine zBs ?_ GE218.out | refine zBs ?_ GE219.out | refine zBs ?_ GE222.out) | exact HB.out)))); (case aL => have := LMc82.out; omega); intro v230 w90 ho hb hg hat; (first | rw [← Ny229.out] at ho | (simp only [Int.reduceToNat] at ho; rw [← Ny229.out] at ho)); have n0_ := zM (blk_grown (g := gb209) (o := .cells #[.slice (some ad215) l0_0.length c0_0, .slice (some ad214) l0_1.length c0_1] 46 (0, 0)) (by exact zNf (BK209.out) NB209_222.out _) hg (Kd.R_ne HO_4.out BK209.out (by decide))); have n1_ := zM (blk_grown (g := gb218) (o := .cells #[.string ((rd_T94 l0_0 ((rd_T97 l0_1 x5_1).f0)).f0), .int .i64 ((rd_T94 l0_0 ((rd_T97 l0_1 x5_1).f0)).f1), .int .i64 ((rd_T94 l0_0 ((rd_T97 l0_1 x5_1).f0)).f2)] 94 (0, 0)) (by exact zNf (BK218.out) NB218_222.out _) hg (Kd.R_ne HO_4.out BK218.out (by decide))); have n2_ := zM (blk_grown (g := gb219) (o := .cells #[.string ((rd_T94 l0_0 ((rd_T97 l0_1 x5_1).f1)).f0), .int .i64 ((rd_T94 l0_0 ((rd_T97 l0_1 x5_1).f1)).f1), .int .i64 ((rd_T94 l0_0 ((rd_T97 l0_1 x5_1).f1)).f2)] 94 (0, 0)) (by exact zNf (BK219.out) NB219_222.out _) hg (Kd.R_ne HO_4.out BK219.out (by decide))); have n3_ := zM (blk_grown (g := gb222) (o := .cells #[.int .i64 ((rd_T97 l0_1 x5_1).f0), .int .i64 ((rd_T97 l0_1 x5_1).f1), .int .i64 x223002_14, .int .i64 1, .int .i64 ((rd_T94 l0_0 ((rd_T97 l0_1 x5_1).f0)).f2)] 80 (0, 0)) (by exact blk_put (BK222.out) 4 _ rfl) hg (Kd.R_away HO_4.out (fun _ hk => hk))); have n4_ := zM (hb); have n5_ := zM (ho); clear BK209; clear BK218; clear BK219; clear BK222; clear HB; clear HO_4; have BK209 := n0_; have BK218 := n1_; have BK219 := n2_; have BK222 := n3_; have HB := n4_; have HO231 := n5_; clear n0_ n1_ n2_ n3_ n4_ n5_; clear ho hb hg hat))
        go_roundg kj46
        case measure => have := HK1.out; have := HJ14.out; have := HJ46.out; omega
        case rel => exact ⟨(y229), (wrap64 (x5_1 + 1)), (by first | rfl | (simp; done) | (simp [*]; done)), H', ⟨by have := HK1.out; have := HJ14.out; have := HJ46.out; omega⟩, ⟨by (with_reducible repeat (first | apply zRa | apply zRn | apply zRd)); first | exact Kd.R_mono HO231.out (fun _ hk => trivial) | (subst_vars; exact Kd.R_mono HO231.out (fun _ hk => trivial))⟩, ⟨by (with_reducible repeat (first | apply zNn | apply zNd | apply zNa)); exact BK209.out⟩, ⟨by repeat (first | (with_reducible first | exact HB.out | apply zBa | apply zBn | apply zBd | refine zBs ?_ GE209.out | refine zBs ?_ GE218.out | refine zBs ?_ GE219.out | refine zBs ?_ GE222.out) | exact HB.out)⟩⟩
       subst c57
       have H1 : (if ((rd_T94 l0_0 ((rd_T97 l0_1 x5_1).f0)).f1) = 5 then (if x4_1.length < 3518437208883 then (spec_Wiring.l0 kj46 (x4_1 ++ [(⟨((rd_T97 l0_1 x5_1).f0), ((rd_T97 l0_1 x5_1).f1), x223002_14, ((rd_T94 l0_0 ((rd_T97 l0_1 x5_1).f1)).f2), ((rd_T94 l0_0 ((rd_T97 l0_1 x5_1).f0)).f2)⟩ : S80)]) (wrap64 (x5_1 + 1)) l0_0 l0_1) else (none)) else (if x4_1.length < 3518437208883 then (spec_Wiring.l0 kj46 (x4_1 ++ [(⟨((rd_T97 l0_1 x5_1).f0), ((rd_T97 l0_1 x5_1).f1), x223002_14, ((rd_T94 l0_0 ((rd_T97 l0_1 x5_1).f1)).f2), 0⟩ : S80)]) (wrap64 (x5_1 + 1)) l0_0 l0_1) else (none))) = some (r1, r2) := by rw [if_pos rfl] at H; exact H
       clear H
       have H := H1
       clear H1
       by_cases c58 : ((rd_T94 l0_0 ((rd_T97 l0_1 x5_1).f0)).f1) = 5
       case neg =>
        rw [if_neg c58] at H
        have c58b0 : (((rd_T94 l0_0 ((rd_T97 l0_1 x5_1).f0)).f1) == 5) = false := beq_eq_false_iff_ne.mpr c58
        have c58b1 : (((rd_T94 l0_0 ((rd_T97 l0_1 x5_1).f0)).f1) != 5) = true := bne_iff_ne.mpr c58
        by_cases c70 : x4_1.length < 3518437208883
        case neg =>
         rw [if_neg c70] at H
         exact absurd H (by simp)
        rw [if_pos c70] at H
        have LMc70 := zM c70
        clear c70
        obtain ⟨y226, hy226⟩ : ∃ y_ : List (S80), y_ = (x4_1 ++ [(⟨((rd_T97 l0_1 x5_1).f0), ((rd_T97 l0_1 x5_1).f1), x223002_14, ((rd_T94 l0_0 ((rd_T97 l0_1 x5_1).f1)).f2), 0⟩ : S80)]) := ⟨_, rfl⟩
        replace H : (spec_Wiring.l0 kj46 y226 (wrap64 (x5_1 + 1)) l0_0 l0_1) = some (r1, r2) := by first | (rw [hy226]; with_reducible exact H) | (have H2_ := (Option.bind_some _ _).symm.trans H; rw [hy226]; with_reducible exact H2_) | (have H2_ := (Option.bind_some _ _).symm.trans H; with_reducible exact H2_) | with_reducible exact H | (rw [hy226]; exact H) | exact H
        have Ny226 := zM hy226
        clear hy226
        have H' := zM H
        clear H
        have hnb71 := NB219_209.out
        have hnc71 := NB209_219.out
        have hnb72 := NB219_218.out
        have hnc72 := NB218_219.out
        have hnb73 := NB219_222.out
        have hnc73 := NB222_219.out
        obtain ⟨hcz74_0, hcz74_1, hcz74_2, hfz74_0, hfz74_1, hfz74_2⟩ := zc3 BK219.out
        have hnb75 := NB222_209.out
        have hnc75 := NB209_222.out
        have hnb76 := NB222_218.out
        have hnc76 := NB218_222.out
        obtain ⟨hcz77_0, hcz77_1, hcz77_2, hcz77_3, hcz77_4, hfz77_0, hfz77_1, hfz77_2, hfz77_3, hfz77_4⟩ := zc5 BK222.out
        have hnb78 := NB218_209.out
        have hnc78 := NB209_218.out
        obtain ⟨hcz79_0, hcz79_1, hcz79_2, hfz79_0, hfz79_1, hfz79_2⟩ := zc3 BK218.out
        go_wp2_with (first | ((with_reducible refine gate_builtin (b := .append) (xs := #[.tmp 77, .tmp 79]) rfl ?_); at_builtin; refine Kd.R_append k80 (w0 := w) w.heap.size rfl (.tmp 77) (.tmp 79) 27 80 (.agg #[(.int .i64 0), (.int .i64 0), (.int .i64 0), (.int .i64 0), (.int .i64 0)]) 40 rfl Try.underlying27 info80 rfl (by decide) (by omega) u4 x4_1 (⟨((rd_T97 l0_1 x5_1).f0), ((rd_T97 l0_1 x5_1).f1), x223002_14, ((rd_T94 l0_0 ((rd_T97 l0_1 x5_1).f1)).f2), 0⟩ : S80) [.int .i64 ((rd_T97 l0_1 x5_1).f0), .int .i64 ((rd_T97 l0_1 x5_1).f1), .int .i64 x223002_14, .int .i64 ((rd_T94 l0_0 ((rd_T97 l0_1 x5_1).f1)).f2), .int .i64 0] (fun k_ => k_ ≠ gb222) (fun _ => False) rfl (by first | (go_simp; done) | (go_simp; rfl)) ?aP (fun _ hk => hk.elim) ?aF ?aO ?aB ?aS ?aL ?_; (case aP => exact k80_mkM _ _ _ (⟨((rd_T97 l0_1 x5_1).f0), ((rd_T97 l0_1 x5_1).f1), x223002_14, ((rd_T94 l0_0 ((rd_T97 l0_1 x5_1).f1)).f2), 0⟩ : S80)); (case aB => exact (by repeat (first | (with_reducible first | exact HB.out | apply zBa | apply zBn | apply zBd | refine zBs ?_ GE209.out | refine zBs ?_ GE218.out | refine zBs ?_ GE219.out | refine zBs ?_ GE222.out) | exact HB.out))); (case aF => exact (fun k_ hk => Kd.freshB (g := gb222) (o := .cells #[.int .i64 ((rd_T97 l0_1 x5_1).f0), .int .i64 ((rd_T97 l0_1 x5_1).f1), .int .i64 x223002_14, .int .i64 ((rd_T94 l0_0 ((rd_T97 l0_1 x5_1).f1)).f2), .int .i64 0] 80 (0, 0)) (by exact blk_put (BK222.out) 3 _ rfl) k_ hk)); (case aO => exact (by (with_reducible repeat (first | apply zRa | apply zRn | apply zRd)); exact Kd.R_mono (Kd.R_far (p := ⟨gb222, 3, none⟩) (Kd.R_mono HO_4.out (fun k_ hk => (⟨hk, hk⟩ : _ ∧ k_ ≠ gb222))) (fun _ hk => hk.2) (.int .i64 ((rd_T94 l0_0 ((rd_T97 l0_1 x5_1).f1)).f2))) (fun _ hk => hk.1))); (case aS => exact (below_size (by repeat (first | (with_reducible first | exact HB.out | apply zBa | apply zBn | apply zBd | refine zBs ?_ GE209.out | refine zBs ?_ GE218.out | refine zBs ?_ GE219.out | refine zBs ?_ GE222.out) | exact HB.out)))); (case aL => have := LMc70.out; omega); intro v227 w80 ho hb hg hat; (first | rw [← Ny226.out] at ho | (simp only [Int.reduceToNat] at ho; rw [← Ny226.out] at ho)); have n0_ := zM (blk_grown (g := gb209) (o := .cells #[.slice (some ad215) l0_0.length c0_0, .slice (some ad214) l0_1.length c0_1] 46 (0, 0)) (by exact zNf (BK209.out) NB209_222.out _) hg (Kd.R_ne HO_4.out BK209.out (by decide))); have n1_ := zM (blk_grown (g := gb218) (o := .cells #[.string ((rd_T94 l0_0 ((rd_T97 l0_1 x5_1).f0)).f0), .int .i64 ((rd_T94 l0_0 ((rd_T97 l0_1 x5_1).f0)).f1), .int .i64 ((rd_T94 l0_0 ((rd_T97 l0_1 x5_1).f0)).f2)] 94 (0, 0)) (by exact zNf (BK218.out) NB218_222.out _) hg (Kd.R_ne HO_4.out BK218.out (by decide))); have n2_ := zM (blk_grown (g := gb219) (o := .cells #[.string ((rd_T94 l0_0 ((rd_T97 l0_1 x5_1).f1)).f0), .int .i64 ((rd_T94 l0_0 ((rd_T97 l0_1 x5_1).f1)).f1), .int .i64 ((rd_T94 l0_0 ((rd_T97 l0_1 x5_1).f1)).f2)] 94 (0, 0)) (by exact zNf (BK219.out) NB219_222.out _) hg (Kd.R_ne HO_4.out BK219.out (by decide))); have n3_ := zM (blk_grown (g := gb222) (o := .cells #[.int .i64 ((rd_T97 l0_1 x5_1).f0), .int .i64 ((rd_T97 l0_1 x5_1).f1), .int .i64 x223002_14, .int .i64 ((rd_T94 l0_0 ((rd_T97 l0_1 x5_1).f1)).f2), .int .i64 0] 80 (0, 0)) (by exact blk_put (BK222.out) 3 _ rfl) hg (Kd.R_away HO_4.out (fun _ hk => hk))); have n4_ := zM (hb); have n5_ := zM (ho); clear BK209; clear BK218; clear BK219; clear BK222; clear HB; clear HO_4; have BK209 := n0_; have BK218 := n1_; have BK219 := n2_; have BK222 := n3_; have HB := n4_; have HO228 := n5_; clear n0_ n1_ n2_ n3_ n4_ n5_; clear ho hb hg hat))
        go_roundg kj46
        case measure => have := HK1.out; have := HJ14.out; have := HJ46.out; omega
        case rel => exact ⟨(y226), (wrap64 (x5_1 + 1)), (by first | rfl | (simp; done) | (simp [*]; done)), H', ⟨by have := HK1.out; have := HJ14.out; have := HJ46.out; omega⟩, ⟨by (with_reducible repeat (first | apply zRa | apply zRn | apply zRd)); first | exact Kd.R_mono HO228.out (fun _ hk => trivial) | (subst_vars; exact Kd.R_mono HO228.out (fun _ hk => trivial))⟩, ⟨by (with_reducible repeat (first | apply zNn | apply zNd | apply zNa)); exact BK209.out⟩, ⟨by repeat (first | (with_reducible first | exact HB.out | apply zBa | apply zBn | apply zBd | refine zBs ?_ GE209.out | refine zBs ?_ GE218.out | refine zBs ?_ GE219.out | refine zBs ?_ GE222.out) | exact HB.out)⟩⟩
       rw [if_pos c58] at H
       have c58b0 : (((rd_T94 l0_0 ((rd_T97 l0_1 x5_1).f0)).f1) == 5) = true := beq_iff_eq.mpr c58
       have c58b1 : (((rd_T94 l0_0 ((rd_T97 l0_1 x5_1).f0)).f1) != 5) = false := bne_eq_false_iff_eq.mpr c58
       clear c58
       by_cases c59 : x4_1.length < 3518437208883
       case neg =>
        rw [if_neg c59] at H
        exact absurd H (by simp)
       rw [if_pos c59] at H
       have LMc59 := zM c59
       clear c59
       obtain ⟨y223, hy223⟩ : ∃ y_ : List (S80), y_ = (x4_1 ++ [(⟨((rd_T97 l0_1 x5_1).f0), ((rd_T97 l0_1 x5_1).f1), x223002_14, ((rd_T94 l0_0 ((rd_T97 l0_1 x5_1).f1)).f2), ((rd_T94 l0_0 ((rd_T97 l0_1 x5_1).f0)).f2)⟩ : S80)]) := ⟨_, rfl⟩
       replace H : (spec_Wiring.l0 kj46 y223 (wrap64 (x5_1 + 1)) l0_0 l0_1) = some (r1, r2) := by first | (rw [hy223]; with_reducible exact H) | (have H2_ := (Option.bind_some _ _).symm.trans H; rw [hy223]; with_reducible exact H2_) | (have H2_ := (Option.bind_some _ _).symm.trans H; with_reducible exact H2_) | with_reducible exact H | (rw [hy223]; exact H) | exact H
       have Ny223 := zM hy223
       clear hy223
       have H' := zM H
       clear H
       have hnb60 := NB219_209.out
       have hnc60 := NB209_219.out
       have hnb61 := NB219_218.out
       have hnc61 := NB218_219.out
       have hnb62 := NB219_222.out
       have hnc62 := NB222_219.out
       obtain ⟨hcz63_0, hcz63_1, hcz63_2, hfz63_0, hfz63_1, hfz63_2⟩ := zc3 BK219.out
       have hnb64 := NB222_209.out
       have hnc64 := NB209_222.out
       have hnb65 := NB222_218.out
       have hnc65 := NB218_222.out
       obtain ⟨hcz66_0, hcz66_1, hcz66_2, hcz66_3, hcz66_4, hfz66_0, hfz66_1, hfz66_2, hfz66_3, hfz66_4⟩ := zc5 BK222.out
       have hnb67 := NB218_209.out
       have hnc67 := NB209_218.out
       obtain ⟨hcz68_0, hcz68_1, hcz68_2, hfz68_0, hfz68_1, hfz68_2⟩ := zc3 BK218.out
       go_wp2_with (first | ((with_reducible refine gate_builtin (b := .append) (xs := #[.tmp 77, .tmp 79]) rfl ?_); at_builtin; refine Kd.R_append k80 (w0 := w) w.heap.size rfl (.tmp 77) (.tmp 79) 27 80 (.agg #[(.int .i64 0), (.int .i64 0), (.int .i64 0), (.int .i64 0), (.int .i64 0)]) 40 rfl Try.underlying27 info80 rfl (by decide) (by omega) u4 x4_1 (⟨((rd_T97 l0_1 x5_1).f0), ((rd_T97 l0_1 x5_1).f1), x223002_14, ((rd_T94 l0_0 ((rd_T97 l0_1 x5_1).f1)).f2), ((rd_T94 l0_0 ((rd_T97 l0_1 x5_1).f0)).f2)⟩ : S80) [.int .i64 ((rd_T97 l0_1 x5_1).f0), .int .i64 ((rd_T97 l0_1 x5_1).f1), .int .i64 x223002_14, .int .i64 ((rd_T94 l0_0 ((rd_T97 l0_1 x5_1).f1)).f2), .int .i64 ((rd_T94 l0_0 ((rd_T97 l0_1 x5_1).f0)).f2)] (fun k_ => k_ ≠ gb222) (fun _ => False) rfl (by first | (go_simp; done) | (go_simp; rfl)) ?aP (fun _ hk => hk.elim) ?aF ?aO ?aB ?aS ?aL ?_; (case aP => exact k80_mkM _ _ _ (⟨((rd_T97 l0_1 x5_1).f0), ((rd_T97 l0_1 x5_1).f1), x223002_14, ((rd_T94 l0_0 ((rd_T97 l0_1 x5_1).f1)).f2), ((rd_T94 l0_0 ((rd_T97 l0_1 x5_1).f0)).f2)⟩ : S80)); (case aB => exact (by repeat (first | (with_reducible first | exact HB.out | apply zBa | apply zBn | apply zBd | refine zBs ?_ GE209.out | refine zBs ?_ GE218.out | refine zBs ?_ GE219.out | refine zBs ?_ GE222.out) | exact HB.out))); (case aF => exact (fun k_ hk => Kd.freshB (g := gb222) (o := .cells #[.int .i64 ((rd_T97 l0_1 x5_1).f0), .int .i64 ((rd_T97 l0_1 x5_1).f1), .int .i64 x223002_14, .int .i64 ((rd_T94 l0_0 ((rd_T97 l0_1 x5_1).f1)).f2), .int .i64 ((rd_T94 l0_0 ((rd_T97 l0_1 x5_1).f0)).f2)] 80 (0, 0)) (by exact blk_put (blk_put (BK222.out) 3 _ rfl) 4 _ rfl) k_ hk)); (case aO => exact (by (with_reducible repeat (first | apply zRa | apply zRn | apply zRd)); exact Kd.R_mono (Kd.R_far (p := ⟨gb222, 4, none⟩) (Kd.R_far (p := ⟨gb222, 3, none⟩) (Kd.R_mono HO_4.out (fun k_ hk => (⟨hk, hk⟩ : _ ∧ k_ ≠ gb222))) (fun _ hk => hk.2) (.int .i64 ((rd_T94 l0_0 ((rd_T97 l0_1 x5_1).f1)).f2))) (fun _ hk => hk.2) (.int .i64 ((rd_T94 l0_0 ((rd_T97 l0_1 x5_1).f0)).f2))) (fun _ hk => hk.1))); (case aS => exact (below_size (by repeat (first | (with_reducible first | exact HB.out | apply zBa | apply zBn | apply zBd | refine zBs ?_ GE209.out | refine zBs ?_ GE218.out | refine zBs ?_ GE219.out | refine zBs ?_ GE222.out) | exact HB.out)))); (case aL => have := LMc59.out; omega); intro v224 w69 ho hb hg hat; (first | rw [← Ny223.out] at ho | (simp only [Int.reduceToNat] at ho; rw [← Ny223.out] at ho)); have n0_ := zM (blk_grown (g := gb209) (o := .cells #[.slice (some ad215) l0_0.length c0_0, .slice (some ad214) l0_1.length c0_1] 46 (0, 0)) (by exact zNf (zNf (BK209.out) NB209_222.out _) NB209_222.out _) hg (Kd.R_ne HO_4.out BK209.out (by decide))); have n1_ := zM (blk_grown (g := gb218) (o := .cells #[.string ((rd_T94 l0_0 ((rd_T97 l0_1 x5_1).f0)).f0), .int .i64 ((rd_T94 l0_0 ((rd_T97 l0_1 x5_1).f0)).f1), .int .i64 ((rd_T94 l0_0 ((rd_T97 l0_1 x5_1).f0)).f2)] 94 (0, 0)) (by exact zNf (zNf (BK218.out) NB218_222.out _) NB218_222.out _) hg (Kd.R_ne HO_4.out BK218.out (by decide))); have n2_ := zM (blk_grown (g := gb219) (o := .cells #[.string ((rd_T94 l0_0 ((rd_T97 l0_1 x5_1).f1)).f0), .int .i64 ((rd_T94 l0_0 ((rd_T97 l0_1 x5_1).f1)).f1), .int .i64 ((rd_T94 l0_0 ((rd_T97 l0_1 x5_1).f1)).f2)] 94 (0, 0)) (by exact zNf (zNf (BK219.out) NB219_222.out _) NB219_222.out _) hg (Kd.R_ne HO_4.out BK219.out (by decide))); have n3_ := zM (blk_grown (g := gb222) (o := .cells #[.int .i64 ((rd_T97 l0_1 x5_1).f0), .int .i64 ((rd_T97 l0_1 x5_1).f1), .int .i64 x223002_14, .int .i64 ((rd_T94 l0_0 ((rd_T97 l0_1 x5_1).f1)).f2), .int .i64 ((rd_T94 l0_0 ((rd_T97 l0_1 x5_1).f0)).f2)] 80 (0, 0)) (by exact blk_put (blk_put (BK222.out) 3 _ rfl) 4 _ rfl) hg (Kd.R_away HO_4.out (fun _ hk => hk))); have n4_ := zM (hb); have n5_ := zM (ho); clear BK209; clear BK218; clear BK219; clear BK222; clear HB; clear HO_4; have BK209 := n0_; have BK218 := n1_; have BK219 := n2_; have BK222 := n3_; have HB := n4_; have HO225 := n5_; clear n0_ n1_ n2_ n3_ n4_ n5_; clear ho hb hg hat))
       go_roundg kj46
       case measure => have := HK1.out; have := HJ14.out; have := HJ46.out; omega
       case rel => exact ⟨(y223), (wrap64 (x5_1 + 1)), (by first | rfl | (simp; done) | (simp [*]; done)), H', ⟨by have := HK1.out; have := HJ14.out; have := HJ46.out; omega⟩, ⟨by (with_reducible repeat (first | apply zRa | apply zRn | apply zRd)); first | exact Kd.R_mono HO225.out (fun _ hk => trivial) | (subst_vars; exact Kd.R_mono HO225.out (fun _ hk => trivial))⟩, ⟨by (with_reducible repeat (first | apply zNn | apply zNd | apply zNa)); exact BK209.out⟩, ⟨by repeat (first | (with_reducible first | exact HB.out | apply zBa | apply zBn | apply zBd | refine zBs ?_ GE209.out | refine zBs ?_ GE218.out | refine zBs ?_ GE219.out | refine zBs ?_ GE222.out) | exact HB.out)⟩⟩

end Go.Proofs.Ytckadpomhdjkhaa.PFnExactWiring
