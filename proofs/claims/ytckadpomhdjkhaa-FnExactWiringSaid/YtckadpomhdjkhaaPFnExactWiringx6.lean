-- Written by a turned copy of the print (see the notes of this repo): plain functions and their walks. Lean checks it.
import Derived.Test.YtckadpomhdjkhaaPFnExactWiringx0
import Derived.Test.YtckadpomhdjkhaaPFnExactWiringx3
import Derived.Test.YtckadpomhdjkhaaPFnExactWiringx5
namespace Go.Proofs.Ytckadpomhdjkhaa.PFnExactWiring
open Go.RowKit Go.Proofs.YtckadpomhdjkhaaW.PrintWords Go.Proofs.YtckadpomhdjkhaaW.PrintLast Go.Proofs.YtckadpomhdjkhaaW.PrintMore
attribute [local go_sem] max2_int min2_int max_two min_two max_three min_three max_four min_four   -- for this text's walks alone
set_option linter.unusedVariables false
set_option linter.unusedSimpArgs false

/-! ### spec_PlanOk: function 22 -/
mutual
def spec_PlanOk.j0 : Nat → Bool → List (S94) → List (S97) → Option (Bool)
 | 0, _, _, _ => none
 | k + 1, x18, x191000, x191001 => if x18 = true then (some false) else (if 0 ≤ (x191000.length : Int) then (if ((x191000.length : Int) : Int).toNat ≤ 35184372088832 then (spec_PlanOk.l0 k (List.replicate ((x191000.length : Int) : Int).toNat 0) 0 x191000 x191001) else (none)) else (none))
def spec_PlanOk.l0 : Nat → List Int → Int → List (S94) → List (S97) → Option (Bool)
 | 0, _, _, _, _ => none
 | k + 1, x3, x4, x191000, x191001 => if x4 < (x191000.length : Int) then (if 0 ≤ x4 then ((spec_l20Node.f k ((rd_T94 x191000 x4).f0) ((rd_T94 x191000 x4).f1) ((rd_T94 x191000 x4).f2)).bind fun t196 => (if t196 = true then ((spec_l20Find.f k x191000 x191001 ((rd_T94 x191000 x4).f0)).bind fun t198 => (if t198 = x4 then (spec_PlanOk.l0 k x3 (wrap64 (x4 + 1)) x191000 x191001) else (some false))) else (some false))) else (none)) else (spec_PlanOk.l1 k x3 0 x191000 x191001)
def spec_PlanOk.l1 : Nat → List Int → Int → List (S94) → List (S97) → Option (Bool)
 | 0, _, _, _, _ => none
 | k + 1, x3, x5, x191000, x191001 => if x5 < (x191001.length : Int) then (if 0 ≤ x5 then ((spec_l1In.f ((rd_T97 x191001 x5).f0) 0 (wrap64 ((x191000.length : Int) - 1))).bind fun t201 => (if t201 = true then ((spec_l1In.f ((rd_T97 x191001 x5).f1) 0 (wrap64 ((x191000.length : Int) - 1))).bind fun t202 => (if t202 = true then (if 0 ≤ ((rd_T97 x191001 x5).f0) then (if ((rd_T97 x191001 x5).f0) < (x191000.length : Int) then (if ((rd_T94 x191000 ((rd_T97 x191001 x5).f0)).f1) = 2 then (some false) else (if 0 ≤ ((rd_T97 x191001 x5).f1) then (if ((rd_T97 x191001 x5).f1) < (x3.length : Int) then (spec_PlanOk.l1 k (x3.set (((rd_T97 x191001 x5).f1) : Int).toNat (wrap64 ((rd x3 ((rd_T97 x191001 x5).f1)) + 1))) (wrap64 (x5 + 1)) x191000 x191001) else (none)) else (none))) else (none)) else (none)) else (some false))) else (some false))) else (none)) else (spec_PlanOk.l2 k x3 0 x191000 x191001)
def spec_PlanOk.l2 : Nat → List Int → Int → List (S94) → List (S97) → Option (Bool)
 | 0, _, _, _, _ => none
 | k + 1, x3, x7, x191000, x191001 => if x7 < (x191000.length : Int) then (if 0 ≤ x7 then (if x7 < (x3.length : Int) then ((spec_l20Doors.f ((rd_T94 x191000 x7).f1)).bind fun t208 => (if (rd x3 x7) = t208 then (spec_PlanOk.l2 k x3 (wrap64 (x7 + 1)) x191000 x191001) else (some false))) else (none)) else (none)) else (some true)
end
def spec_PlanOk.f (k : Nat) (l0_0 : List (S94)) (l0_1 : List (S97)) : Option (Bool) := (spec_l1In.f (l0_0.length : Int) 1 20).bind fun t191 => (if t191 = true then (spec_PlanOk.j0 k (decide ((l0_1.length : Int) > 40)) l0_0 l0_1) else (spec_PlanOk.j0 k true l0_0 l0_1))
theorem spec_PlanOk.mono_l : ∀ k, (∀ y0 y1 y2, LeO (spec_PlanOk.j0 k y0 y1 y2) (spec_PlanOk.j0 (k + 1) y0 y1 y2)) ∧ (∀ y0 y1 y2 y3, LeO (spec_PlanOk.l0 k y0 y1 y2 y3) (spec_PlanOk.l0 (k + 1) y0 y1 y2 y3)) ∧ (∀ y0 y1 y2 y3, LeO (spec_PlanOk.l1 k y0 y1 y2 y3) (spec_PlanOk.l1 (k + 1) y0 y1 y2 y3)) ∧ (∀ y0 y1 y2 y3, LeO (spec_PlanOk.l2 k y0 y1 y2 y3) (spec_PlanOk.l2 (k + 1) y0 y1 y2 y3))
 | 0 => ⟨fun _ _ _ r h => by simp [spec_PlanOk.j0] at h, fun _ _ _ _ r h => by simp [spec_PlanOk.l0] at h, fun _ _ _ _ r h => by simp [spec_PlanOk.l1] at h, fun _ _ _ _ r h => by simp [spec_PlanOk.l2] at h⟩
 | k + 1 => by
  obtain ⟨ih0, ih1, ih2, ih3⟩ := spec_PlanOk.mono_l k
  refine ⟨?_, ?_, ?_, ?_⟩
  ·intro y0 y1 y2
   unfold spec_PlanOk.j0
   repeat' first
   | (with_reducible exact ih0 _ _ _)
   | (with_reducible exact ih1 _ _ _ _)
   | (with_reducible exact ih2 _ _ _ _)
   | (with_reducible exact ih3 _ _ _ _)
   | (with_reducible exact spec_l20Find.mono _ _ _ _)
   | (with_reducible exact spec_l20Node.mono _ _ _ _)
   | (with_reducible exact LeO.refl _)
   | (with_reducible exact LeO.none _)
   | (with_reducible refine LeO.ite ?_ ?_)
   | (with_reducible refine LeO.bind ?_ (fun _ => ?_))
  ·intro y0 y1 y2 y3
   unfold spec_PlanOk.l0
   repeat' first
   | (with_reducible exact ih0 _ _ _)
   | (with_reducible exact ih1 _ _ _ _)
   | (with_reducible exact ih2 _ _ _ _)
   | (with_reducible exact ih3 _ _ _ _)
   | (with_reducible exact spec_l20Find.mono _ _ _ _)
   | (with_reducible exact spec_l20Node.mono _ _ _ _)
   | (with_reducible exact LeO.refl _)
   | (with_reducible exact LeO.none _)
   | (with_reducible refine LeO.ite ?_ ?_)
   | (with_reducible refine LeO.bind ?_ (fun _ => ?_))
  ·intro y0 y1 y2 y3
   unfold spec_PlanOk.l1
   repeat' first
   | (with_reducible exact ih0 _ _ _)
   | (with_reducible exact ih1 _ _ _ _)
   | (with_reducible exact ih2 _ _ _ _)
   | (with_reducible exact ih3 _ _ _ _)
   | (with_reducible exact spec_l20Find.mono _ _ _ _)
   | (with_reducible exact spec_l20Node.mono _ _ _ _)
   | (with_reducible exact LeO.refl _)
   | (with_reducible exact LeO.none _)
   | (with_reducible refine LeO.ite ?_ ?_)
   | (with_reducible refine LeO.bind ?_ (fun _ => ?_))
  ·intro y0 y1 y2 y3
   unfold spec_PlanOk.l2
   repeat' first
   | (with_reducible exact ih0 _ _ _)
   | (with_reducible exact ih1 _ _ _ _)
   | (with_reducible exact ih2 _ _ _ _)
   | (with_reducible exact ih3 _ _ _ _)
   | (with_reducible exact spec_l20Find.mono _ _ _ _)
   | (with_reducible exact spec_l20Node.mono _ _ _ _)
   | (with_reducible exact LeO.refl _)
   | (with_reducible exact LeO.none _)
   | (with_reducible refine LeO.ite ?_ ?_)
   | (with_reducible refine LeO.bind ?_ (fun _ => ?_))
theorem spec_PlanOk.mono : ∀ a0 a1 k, LeO (spec_PlanOk.f k a0 a1) (spec_PlanOk.f (k + 1) a0 a1) := by
 intro a0 a1 k
 obtain ⟨ih0, ih1, ih2, ih3⟩ := spec_PlanOk.mono_l k
 unfold spec_PlanOk.f
 repeat' first
  | (with_reducible exact ih0 _ _ _)
  | (with_reducible exact ih1 _ _ _ _)
  | (with_reducible exact ih2 _ _ _ _)
  | (with_reducible exact ih3 _ _ _ _)
  | (with_reducible exact spec_l20Find.mono _ _ _ _)
  | (with_reducible exact spec_l20Node.mono _ _ _ _)
  | (with_reducible exact LeO.refl _)
  | (with_reducible exact LeO.none _)
  | (with_reducible refine LeO.ite ?_ ?_)
  | (with_reducible refine LeO.bind ?_ (fun _ => ?_))
def spec_PlanOk.T7 : Bool × List (List Nat × List Nat) := (true, [([], []), ([0], [0]), ([], []), ([1, 2], [1, 2]), ([3], [3]), ([4], [4]), ([5], [5]), ([6, 5], [6]), ([7], [7]), ([7], [7]), ([9, 7], [7, 9]), ([7], [7]), ([10, 11, 7], [7, 10, 11]), ([12, 7], [7, 12]), ([13, 7], [7, 13]), ([8, 14, 7, 7], [7, 8, 14]), ([7], [7]), ([15, 16, 7], [7, 15, 16]), ([7, 17], [7, 17])])
def spec_PlanOk.B7 : List Nat := [0, 1, 0, 7, 15, 31, 63, 127, 255, 255, 767, 255, 3839, 7935, 16127, 32767, 255, 131071, 262143]
theorem spec_PlanOk.tab7 : rtab .any (opsOf Try.f22 7) = spec_PlanOk.T7 := by kernel_rfl
theorem spec_PlanOk.bits7 : waitsOk spec_PlanOk.T7.2 spec_PlanOk.B7 = true := by kernel_rfl
def spec_PlanOk.T19 : Bool × List (List Nat × List Nat) := (true, [([], []), ([], []), ([0, 1], [0, 1]), ([2], [2]), ([], []), ([4], [4]), ([], []), ([5, 6], [5, 6]), ([7], [7]), ([8], [8]), ([9], [9]), ([3, 10], [3, 10])])
def spec_PlanOk.B19 : List Nat := [0, 0, 3, 7, 0, 16, 0, 112, 240, 496, 1008, 2047]
theorem spec_PlanOk.tab19 : rtab .any (opsOf Try.f22 19) = spec_PlanOk.T19 := by kernel_rfl
theorem spec_PlanOk.bits19 : waitsOk spec_PlanOk.T19.2 spec_PlanOk.B19 = true := by kernel_rfl
set_option maxHeartbeats 8000000 in
set_option maxRecDepth 100000 in
theorem spec_PlanOk.calls (k : Nat) (A0_0 : Option Addr) (c0_0 : Nat) (l0_0 : List (S94)) (A0_1 : Option Addr) (c0_1 : Nat) (l0_1 : List (S97)) (r : Bool) (w : World) (hr0_0 : Kd.C k94 w A0_0 l0_0.length l0_0) (hc0_0 : l0_0.length ≤ c0_0) (hr0_1 : Kd.C k97 w A0_1 l0_1.length l0_1) (hc0_1 : l0_1.length ≤ c0_1) (h : spec_PlanOk.f k l0_0 l0_1 = some r) :
 Calls Try.prog 22 #[.agg #[.slice A0_0 l0_0.length c0_0, .slice A0_1 l0_1.length c0_1]] w fun e w' => e = .returned (.bool r) ∧ Below w.heap.size w w' := by
 have hu46 := Try.underlying46
 have hu94 := Try.underlying94
 have hu97 := Try.underlying97
 have HR0_0 := zM hr0_0
 have HC0_0 := zM hc0_0
 clear hr0_0 hc0_0
 have HR0_1 := zM hr0_1
 have HC0_1 := zM hc0_1
 clear hr0_1 hc0_1
 have HB := zM (Below.refl w.heap.size w)
 have H : ((spec_l1In.f (l0_0.length : Int) 1 20).bind fun t191 => (if t191 = true then (spec_PlanOk.j0 k (decide ((l0_1.length : Int) > 40)) l0_0 l0_1) else (spec_PlanOk.j0 k true l0_0 l0_1))) = some r := h
 clear h
 have HC2 := zM H
 clear H
 go_enter Try.func22, Try.ntmps22
 go_upto_region 1 with (first | ((with_reducible refine gate_dst (N := 1) rfl ?_); (try (refine gate_guard (by rfl) ?_; dsimp only)); refine box_event ?hg (N := 1) ?hd (cs := #[.slice A0_0 l0_0.length c0_0, .slice A0_1 l0_1.length c0_1]) (t := 46) ?hr ?_; (case hd => rfl); (case hg => rfl); (case hr => first | (go_simp; done) | (go_simp; rfl)); intro gb190 hg w3 hbox hb; have n0_ := zM (below_step (by repeat (first | (with_reducible first | exact HB.out | apply zBa | apply zBn | apply zBd) | exact HB.out)) hb); have n1_ := zM (hbox); have n2_ := zM ((by rw [hg]; exact (below_size (by repeat (first | (with_reducible first | exact HB.out | apply zBa | apply zBn | apply zBd) | exact HB.out))) : w.heap.size ≤ gb190)); have n3_ := zM n2_.out; clear HB; have HB := n0_; have BK190 := n1_; have GW190 := n2_; have GE190 := n3_; clear n0_ n1_ n2_ n3_; clear hb hbox hg))
 (try simp only [Act.put, zS1, zS2, zS3])
 go_cut [18] (fun v18 wc => ∃ (kq : Nat) (x18_1 : Bool), v18 = .bool x18_1 ∧ Aside0 (spec_PlanOk.j0 kq x18_1 l0_0 l0_1 = some r) ∧ Aside0 (kq ≤ k) ∧ Aside0 (wc.heap[gb190]? = some (.cells #[(.slice A0_0 l0_0.length c0_0), (.slice A0_1 l0_1.length c0_1)] 46 (0, 0))) ∧ Aside0 (Below w.heap.size w wc))
 case first =>
  have H := HC2.out
  clear HC2
  replace H := zO.mp H
  obtain ⟨t191, A40, H⟩ := H
  replace H : (if t191 = true then (spec_PlanOk.j0 k (decide ((l0_1.length : Int) > 40)) l0_0 l0_1) else (spec_PlanOk.j0 k true l0_0 l0_1)) = some r := H
  have A4 := zM A40
  clear A40
  by_cases c5 : t191 = true
  case pos =>
   subst c5
   have H1 : (spec_PlanOk.j0 k (decide ((l0_1.length : Int) > 40)) l0_0 l0_1) = some r := by rw [if_pos rfl] at H; exact H
   clear H
   have H := H1
   clear H1
   have H' := zM H
   clear H
   obtain ⟨hcz6_0, hcz6_1, hfz6_0, hfz6_1⟩ := zc2 BK190.out
   go_wp2_with (first | ((with_reducible refine gate_callee (f := 48) rfl ?_); refine goesL_ (some 11) rfl rfl Try.func48 (by kernel_rfl) rfl #[.int .i64 (l0_0.length : Int), .int .i64 1, .int .i64 20] rfl (by (try simp only [List.map_toArray, List.map_cons, List.map_nil]); first | done | rfl | (simp only [List.length_drop, List.length_take]; rfl)) ?_; (with_reducible refine (spec_l1In.calls (l0_0.length : Int) 1 20 true _ A4.out).mono ?_); rintro e w' ⟨rfl, ⟨nd, rfl⟩⟩; refine ⟨_, rfl, ?_⟩))
   go_meet
   case rel => exact ⟨_, (decide ((l0_1.length : Int) > 40)), (by first | rfl | (simp; done) | (simp [*]; done)), H', ⟨by first | omega | exact Nat.le_refl _⟩, ⟨by (with_reducible repeat (first | apply zNn | apply zNd | apply zNa)); exact BK190.out⟩, ⟨by repeat (first | (with_reducible first | exact HB.out | apply zBa | apply zBn | apply zBd | refine zBs ?_ GE190.out) | exact HB.out)⟩⟩
  replace c5 := Bool.eq_false_iff.mpr c5
  subst c5
  have H1 : (spec_PlanOk.j0 k true l0_0 l0_1) = some r := by rw [if_neg (show ¬ (false = true) by decide)] at H; exact H
  clear H
  have H := H1
  clear H1
  have H' := zM H
  clear H
  obtain ⟨hcz7_0, hcz7_1, hfz7_0, hfz7_1⟩ := zc2 BK190.out
  go_wp2_with (first | ((with_reducible refine gate_callee (f := 48) rfl ?_); refine goesL_ (some 11) rfl rfl Try.func48 (by kernel_rfl) rfl #[.int .i64 (l0_0.length : Int), .int .i64 1, .int .i64 20] rfl (by (try simp only [List.map_toArray, List.map_cons, List.map_nil]); first | done | rfl | (simp only [List.length_drop, List.length_take]; rfl)) ?_; (with_reducible refine (spec_l1In.calls (l0_0.length : Int) 1 20 false _ A4.out).mono ?_); rintro e w' ⟨rfl, ⟨nd, rfl⟩⟩; refine ⟨_, rfl, ?_⟩))
  go_meet
  case rel => exact ⟨_, (true), (by first | rfl | (simp; done) | (simp [*]; done)), H', ⟨by first | omega | exact Nat.le_refl _⟩, ⟨by (with_reducible repeat (first | apply zNn | apply zNd | apply zNa)); exact BK190.out⟩, ⟨by repeat (first | (with_reducible first | exact HB.out | apply zBa | apply zBn | apply zBd | refine zBs ?_ GE190.out) | exact HB.out)⟩⟩
 case rest =>
  clear HC2
  try clear c2
  try clear p2
  try clear c4
  try clear c5
  try clear hcz6_0
  try clear hcz6_1
  try clear hcz7_0
  try clear hcz7_1
  try clear hfz6_0
  try clear hfz6_1
  try clear hfz7_0
  try clear hfz7_1
  obtain ⟨kq, x18_1, rfl, HA, HJ1, BK190, HB⟩ := hcut
  cases kq with
  | zero => exact absurd HA.out (by simp [spec_PlanOk.j0])
  | succ kj1 =>
   have H := HA.out
   clear HA
   simp only [spec_PlanOk.j0] at H
   by_cases c8 : x18_1 = true
   case pos =>
    subst c8
    have H1 : (some false) = some r := by rw [if_pos rfl] at H; exact H
    clear H
    have H := H1
    clear H1
    obtain rfl := zI H
    go_wp2
    go_ret
    exact ⟨by first | rfl | (simp [errW_none, errW_some] <;> rfl) | (simp [*, errW_none, errW_some] <;> rfl), by repeat (first | (with_reducible first | exact HB.out | apply zBa | apply zBn | apply zBd | refine zBs ?_ GE190.out) | exact HB.out)⟩
   replace c8 := Bool.eq_false_iff.mpr c8
   subst c8
   have H1 : (if 0 ≤ (l0_0.length : Int) then (if ((l0_0.length : Int) : Int).toNat ≤ 35184372088832 then (spec_PlanOk.l0 kj1 (List.replicate ((l0_0.length : Int) : Int).toNat 0) 0 l0_0 l0_1) else (none)) else (none)) = some r := by rw [if_neg (show ¬ (false = true) by decide)] at H; exact H
   clear H
   have H := H1
   clear H1
   by_cases c9 : 0 ≤ (l0_0.length : Int)
   case neg =>
    rw [if_neg c9] at H
    exact absurd H (by simp)
   rw [if_pos c9] at H
   have c9b0 := eq_true c9
   have c9b1 : decide (0 ≤ (l0_0.length : Int)) = true := zE c9
   clear c9
   by_cases c10 : ((l0_0.length : Int) : Int).toNat ≤ 35184372088832
   case neg =>
    rw [if_neg c10] at H
    exact absurd H (by simp)
   rw [if_pos c10] at H
   have c10b0 := eq_true c10
   have c10b1 : decide (((l0_0.length : Int) : Int).toNat ≤ 35184372088832) = true := zE c10
   clear c10
   obtain ⟨y192, hy192⟩ : ∃ y_ : List Int, y_ = (List.replicate ((l0_0.length : Int) : Int).toNat 0) := ⟨_, rfl⟩
   replace H : (spec_PlanOk.l0 kj1 y192 0 l0_0 l0_1) = some r := by first | (rw [hy192]; with_reducible exact H) | (have H2_ := (Option.bind_some _ _).symm.trans H; rw [hy192]; with_reducible exact H2_) | (have H2_ := (Option.bind_some _ _).symm.trans H; with_reducible exact H2_) | with_reducible exact H | (rw [hy192]; exact H) | exact H
   have Ny192 := zM hy192
   clear hy192
   have H' := zM H
   clear H
   obtain ⟨hcz11_0, hcz11_1, hfz11_0, hfz11_1⟩ := zc2 BK190.out
   go_wp2_with (first | ((with_reducible refine gate_dst (N := 22) rfl ?_); (try (refine gate_guard (by rfl) ?_; dsimp only)); refine Kd.R_make (Kd.int .i64) _ 3 rfl (N := 22) rfl 23 _ _ rfl (l0_0.length : Int) rfl rfl Try.underlying23 (.int .i64 0) 8 info3 rfl (by decide) (by omega) 0 (ok := fun _ => True) (okp := fun _ => True) rfl (fun _ hk => hk) trivial (zT (by assumption)) (Nat.le_trans (Nat.mul_le_mul_right _ (zT (by assumption) : (l0_0.length : Int).toNat ≤ 35184372088832)) (by omega)) (Below.refl _ _) (Nat.le_refl _) ?_; intro v193 w12 ho13 hb hg_ hnew_; clear hg_ hnew_; (first | rw [← Ny192.out] at ho13 | (simp only [Int.reduceToNat] at ho13; rw [← Ny192.out] at ho13)); have n0_ := zM (Kd.R_lower ho13 (below_size (by repeat (first | (with_reducible first | exact HB.out | apply zBa | apply zBn | apply zBd | refine zBs ?_ GE190.out) | exact HB.out)))); have n1_ := zM (zNb (g := gb190) (o := .cells #[.slice A0_0 l0_0.length c0_0, .slice A0_1 l0_1.length c0_1] 46 (0, 0)) (by (with_reducible repeat (first | apply zNn | apply zNd | apply zNa)); exact BK190.out) hb); have n2_ := zM (below_step (by repeat (first | (with_reducible first | exact HB.out | apply zBa | apply zBn | apply zBd | refine zBs ?_ GE190.out) | exact HB.out)) hb); clear BK190; clear HB; have HO194 := n0_; have BK190 := n1_; have HB := n2_; clear n0_ n1_ n2_; clear hb ho13))
   (try simp only [Act.put, zS1, zS2, zS3])
   go_loopg [4] kj1 (fun kq v4 w' => ∃ (x4_2 : Int), v4 = .int .i64 x4_2 ∧ Aside0 (spec_PlanOk.l0 kq y192 x4_2 l0_0 l0_1 = some r) ∧ Aside0 (kq ≤ kj1) ∧ Aside0 (Kd.R (Kd.int .i64) 3 w' w.heap.size (fun _ => True) v193 y192) ∧ Aside0 (w'.heap[gb190]? = some (.cells #[(.slice A0_0 l0_0.length c0_0), (.slice A0_1 l0_1.length c0_1)] 46 (0, 0))) ∧ Aside0 (Below w.heap.size w w'))
   case atStart => exact ⟨(0), (by first | rfl | (simp; done) | (simp [*]; done)), H', ⟨Nat.le_refl _⟩, ⟨by (with_reducible repeat (first | apply zRa | apply zRn | apply zRd)); first | exact HO194.out | (subst_vars; exact HO194.out)⟩, ⟨by (with_reducible repeat (first | apply zNn | apply zNd | apply zNa)); exact BK190.out⟩, ⟨by repeat (first | (with_reducible first | exact HB.out | apply zBa | apply zBn | apply zBd | refine zBs ?_ GE190.out) | exact HB.out)⟩⟩
   case round =>
    clear H'
    try clear c1
    try clear c2
    try clear p2
    try clear c4
    try clear c5
    try clear c8
    try clear c9
    try clear c9b0
    try clear c9b1
    try clear c10
    try clear c10b0
    try clear c10b1
    try clear hcz11_0
    try clear hcz11_1
    try clear hcz6_0
    try clear hcz6_1
    try clear hcz7_0
    try clear hcz7_1
    try clear hfz11_0
    try clear hfz11_1
    try clear hfz6_0
    try clear hfz6_1
    try clear hfz7_0
    try clear hfz7_1
    try clear p2
    obtain ⟨x4_2, rfl, HA, HK2, HO_3, BK190, HB⟩ := hrel
    cases gk with
    | zero => exact absurd HA.out (by simp [spec_PlanOk.l0])
    | succ k2 =>
     have H := HA.out
     clear HA
     simp only [spec_PlanOk.l0] at H
     by_cases c14 : x4_2 < (l0_0.length : Int)
     case pos =>
      rw [if_pos c14] at H
      have c14b0 : decide (x4_2 < (l0_0.length : Int)) = true := zE c14
      clear c14
      by_cases c15 : 0 ≤ x4_2
      case neg =>
       rw [if_neg c15] at H
       exact absurd H (by simp)
      rw [if_pos c15] at H
      have c15b0 : decide (0 ≤ x4_2) = true := zE c15
      clear c15
      replace H := zO.mp H
      obtain ⟨t196, A160, H⟩ := H
      replace H : (if t196 = true then ((spec_l20Find.f k2 l0_0 l0_1 ((rd_T94 l0_0 x4_2).f0)).bind fun t198 => (if t198 = x4_2 then (spec_PlanOk.l0 k2 y192 (wrap64 (x4_2 + 1)) l0_0 l0_1) else (some false))) else (some false)) = some r := H
      have A16 := zM A160
      clear A160
      by_cases c17 : t196 = true
      case neg =>
       replace c17 := Bool.eq_false_iff.mpr c17
       subst c17
       have H1 : (some false) = some r := by rw [if_neg (show ¬ (false = true) by decide)] at H; exact H
       clear H
       have H := H1
       clear H1
       obtain rfl := zI H
       obtain ⟨hcz28_0, hcz28_1, hfz28_0, hfz28_1⟩ := zc2 BK190.out
       try go_wp2
       have n0_ := zM (zRd HO_3.out)
       have n1_ := zM (zNd BK190.out)
       have n2_ := zM (zBd HB.out)
       clear HO_3
       clear BK190
       clear HB
       have HO_3 := n0_
       have BK190 := n1_
       have HB := n2_
       clear n0_ n1_ n2_
       have p195 : 0 ≤ (x4_2 : Int) := zT (by assumption)
       have q195 : x4_2 < (l0_0.length : Int) := zT (by assumption)
       obtain ⟨ad195, e195, hx195_0, hx195_1, hx195_2⟩ := at_T94 HR0_0.out x4_2 p195 q195
       have hw195_2 := hx195_2
       have hw195_1 := hx195_1
       have hw195_0 := hx195_0
       cases e195
       replace hx195_0 := (HB.out.cell (zW w _ hx195_0)).trans hx195_0
       replace hx195_1 := (HB.out.cell (zW w _ hx195_1)).trans hx195_1
       replace hx195_2 := (HB.out.cell (zW w _ hx195_2)).trans hx195_2
       replace p195 := eq_true p195
       replace q195 := eq_true q195
       refine start_ (n := 19) (S := fun w' => w'.cell? ⟨gb190, 0, none⟩ = some (.slice (some ad195) l0_0.length c0_0) ∧ w'.cell? ⟨gb190, 1, none⟩ = some (.slice A0_1 l0_1.length c0_1) ∧ w'.cell? (ad195.add ((x4_2).toNat * 3)) = some (.string ((rd_T94 l0_0 x4_2).f0)) ∧ w'.cell? ⟨(ad195.add ((x4_2).toNat * 3)).block, (ad195.add ((x4_2).toNat * 3)).off + 1, none⟩ = some (.int .i64 ((rd_T94 l0_0 x4_2).f1)) ∧ w'.cell? ⟨(ad195.add ((x4_2).toNat * 3)).block, (ad195.add ((x4_2).toNat * 3)).off + 2, none⟩ = some (.int .i64 ((rd_T94 l0_0 x4_2).f2))) (ds := []) #[zf,zf,zf,zf,zf,zf,zf,zf,zf,zf,zf,zf,zf,zf,zf,zf,zf,zf,zf] (by kernel_rfl) rfl rfl ⟨(blk_cell BK190.out 0).trans rfl, (blk_cell BK190.out 1).trans rfl, ((HB.out.cell (zW w _ hw195_0)).trans hw195_0), ((HB.out.cell (zW w _ hw195_1)).trans hw195_1), ((HB.out.cell (zW w _ hw195_2)).trans hw195_2)⟩ (fun hHeld => ?_); refine with_tabW spec_PlanOk.tab7 spec_PlanOk.bits7 (fun HT_ HW_ => ?_)
       generalize wr.drew = w29 at HO_3 BK190 HB hx195_0 hx195_1 hx195_2 hHeld ⊢
       refine pure_ (i := 0) (N := some 30) (v := ?_) (a' := ?_) #[zt,zf,zf,zf,zf,zf,zf,zf,zf,zf,zf,zf,zf,zf,zf,zf,zf,zf,zf] rfl rfl (any_of HT_.out (by kernel_rfl)) (fun _ _ _ h => h) (Or.inl ⟨by rfl, ?_⟩) ?_ ?_
       rotate_left
       ·intro w'
        go_simp
        with_reducible rfl
       rotate_left
       ·simp only [Act.put, zS1, zS2, zS3, i64_w, i32_w]
        rfl
       refine pure_ (i := 2) (N := some 32) (v := ?_) (a' := ?_) #[zt,zf,zt,zf,zf,zf,zf,zf,zf,zf,zf,zf,zf,zf,zf,zf,zf,zf,zf] rfl rfl (any_of HT_.out (by kernel_rfl)) (fun _ _ _ h => h) (Or.inl ⟨by rfl, ?_⟩) ?_ ?_
       rotate_left
       ·intro w'
        go_simp
        with_reducible rfl
       rotate_left
       ·simp only [Act.put, zS1, zS2, zS3, i64_w, i32_w]
        rfl
       refine take_ (i := 1) (N := some 31) (v := ?_) (a' := ?_) #[zt,zt,zt,zf,zf,zf,zf,zf,zf,zf,zf,zf,zf,zf,zf,zf,zf,zf,zf] rfl rfl (take_ofW HT_.out HW_.out (by kernel_rfl)) (fun _ _ _ h => h) (Or.inl ⟨by rfl, ?_⟩) hHeld ?_ ?_
       rotate_left
       ·rintro w' ⟨s0, s1, s2, s3, s4⟩
        go_simp
        with_reducible rfl
       rotate_left
       ·simp only [Act.put, zS1, zS2, zS3, i64_w, i32_w]
        rfl
       refine pure_ (i := 3) (N := some 33) (v := ?_) (a' := ?_) #[zt,zt,zt,zt,zf,zf,zf,zf,zf,zf,zf,zf,zf,zf,zf,zf,zf,zf,zf] rfl rfl (any_of HT_.out (by kernel_rfl)) (fun _ _ _ h => h) (Or.inl ⟨by rfl, ?_⟩) ?_ ?_
       rotate_left
       ·intro w'
        go_simp
        with_reducible rfl
       rotate_left
       ·simp only [Act.put, zS1, zS2, zS3, i64_w, i32_w]
        rfl
       refine take_ (i := 4) (N := some 34) (v := ?_) (a' := ?_) #[zt,zt,zt,zt,zt,zf,zf,zf,zf,zf,zf,zf,zf,zf,zf,zf,zf,zf,zf] rfl rfl (take_ofW HT_.out HW_.out (by kernel_rfl)) (fun _ _ _ h => h) (Or.inl ⟨by rfl, ?_⟩) hHeld ?_ ?_
       rotate_left
       ·rintro w' ⟨s0, s1, s2, s3, s4⟩
        go_simp
        with_reducible rfl
       rotate_left
       ·simp only [Act.put, zS1, zS2, zS3, i64_w, i32_w]
        rfl
       refine one_ (i := 5) (N := some 35) #[zt,zt,zt,zt,zt,zt,zf,zf,zf,zf,zf,zf,zf,zf,zf,zf,zf,zf,zf] rfl rfl (one_of HT_.out (by kernel_rfl)) (by decide) (fun K hK => ?_)
       refine goes_ Try.func60 (by kernel_rfl) rfl #[.agg #[.string ((rd_T94 l0_0 x4_2).f0), .int .i64 ((rd_T94 l0_0 x4_2).f1), .int .i64 ((rd_T94 l0_0 x4_2).f2)]] (by rfl) rfl rfl (by (try simp only [List.map_toArray, List.map_cons, List.map_nil]); first | done | rfl | (simp only [List.length_drop, List.length_take]; rfl)) ?_
       with_reducible refine (spec_l20Node.calls k2 ((rd_T94 l0_0 x4_2).f0) ((rd_T94 l0_0 x4_2).f1) ((rd_T94 l0_0 x4_2).f2) false _ A16.out).mono ?_
       rintro e w30 ⟨rfl, hb⟩
       refine ⟨_, rfl, ?_⟩
       have n0_ := zM (Kd.R_below (by (with_reducible repeat (first | apply zRa | apply zRn | apply zRd)); first | exact HO_3.out | (subst_vars; exact HO_3.out)) hb)
       have n1_ := zM (zNb (g := gb190) (o := .cells #[.slice (some ad195) l0_0.length c0_0, .slice A0_1 l0_1.length c0_1] 46 (0, 0)) (by (with_reducible repeat (first | apply zNn | apply zNd | apply zNa)); exact BK190.out) hb)
       have n2_ := zM (below_step (by repeat (first | (with_reducible first | exact HB.out | apply zBa | apply zBn | apply zBd | refine zBs ?_ GE190.out) | exact HB.out)) hb)
       clear HO_3
       clear BK190
       clear HB
       have HO_3 := n0_
       have BK190 := n1_
       have HB := n2_
       clear n0_ n1_ n2_
       (try clear hb)
       (try clear hb2)
       (try clear hk)
       (try clear hi)
       refine hK.out _ _ ⟨(blk_cell BK190.out 0).trans rfl, (blk_cell BK190.out 1).trans rfl, ((HB.out.cell (zW w _ hw195_0)).trans hw195_0), ((HB.out.cell (zW w _ hw195_1)).trans hw195_1), ((HB.out.cell (zW w _ hw195_2)).trans hw195_2)⟩ (fun hHeld => ?_)
       clear hK K
       refine norm_ (a' := ?_) ?_ ?_
       rotate_left
       ·show Act.put _ (some 35) _ = _
        simp only [Act.put, zS1, zS2, zS3, i64_w, i32_w]
        rfl
       refine pure_ (i := 6) (N := some 36) (v := ?_) (a' := ?_) #[zt,zt,zt,zt,zt,zt,zt,zf,zf,zf,zf,zf,zf,zf,zf,zf,zf,zf,zf] rfl rfl (any_of HT_.out (by kernel_rfl)) (fun _ _ _ h => h) (Or.inl ⟨by rfl, ?_⟩) ?_ ?_
       rotate_left
       ·intro w'
        go_simp
        with_reducible rfl
       rotate_left
       ·simp only [Act.put, zS1, zS2, zS3, i64_w, i32_w]
        rfl
       refine pure_ (i := 7) (N := some 37) (v := ?_) (a' := ?_) #[zt,zt,zt,zt,zt,zt,zt,zt,zf,zf,zf,zf,zf,zf,zf,zf,zf,zf,zf] rfl rfl (any_of HT_.out (by kernel_rfl)) (fun _ _ _ h => h) (Or.inl ⟨by rfl, ?_⟩) ?_ ?_
       rotate_left
       ·intro w'
        go_simp
        with_reducible rfl
       rotate_left
       ·simp only [Act.put, zS1, zS2, zS3, i64_w, i32_w]
        rfl
       refine pure_ (i := 8) (N := some 38) (v := undef) (a' := ?_) #[zt,zt,zt,zt,zt,zt,zt,zt,zt,zf,zf,zf,zf,zf,zf,zf,zf,zf,zf] rfl rfl (any_of HT_.out (by kernel_rfl)) (fun _ _ _ h => h) (Or.inr ⟨by rfl, rfl⟩) ?_ ?_
       rotate_left
       ·simp only [Act.put, zS1, zS2, zS3, i64_w, i32_w]
        rfl
       refine pure_ (i := 9) (N := some 39) (v := undef) (a' := ?_) #[zt,zt,zt,zt,zt,zt,zt,zt,zt,zt,zf,zf,zf,zf,zf,zf,zf,zf,zf] rfl rfl (any_of HT_.out (by kernel_rfl)) (fun _ _ _ h => h) (Or.inr ⟨by rfl, rfl⟩) ?_ ?_
       rotate_left
       ·simp only [Act.put, zS1, zS2, zS3, i64_w, i32_w]
        rfl
       refine pure_ (i := 10) (N := some 40) (v := undef) (a' := ?_) #[zt,zt,zt,zt,zt,zt,zt,zt,zt,zt,zt,zf,zf,zf,zf,zf,zf,zf,zf] rfl rfl (any_of HT_.out (by kernel_rfl)) (fun _ _ _ h => h) (Or.inr ⟨by rfl, rfl⟩) ?_ ?_
       rotate_left
       ·simp only [Act.put, zS1, zS2, zS3, i64_w, i32_w]
        rfl
       refine pure_ (i := 11) (N := some 41) (v := undef) (a' := ?_) #[zt,zt,zt,zt,zt,zt,zt,zt,zt,zt,zt,zt,zf,zf,zf,zf,zf,zf,zf] rfl rfl (any_of HT_.out (by kernel_rfl)) (fun _ _ _ h => h) (Or.inr ⟨by rfl, rfl⟩) ?_ ?_
       rotate_left
       ·simp only [Act.put, zS1, zS2, zS3, i64_w, i32_w]
        rfl
       refine pure_ (i := 12) (N := some 42) (v := undef) (a' := ?_) #[zt,zt,zt,zt,zt,zt,zt,zt,zt,zt,zt,zt,zt,zf,zf,zf,zf,zf,zf] rfl rfl (any_of HT_.out (by kernel_rfl)) (fun _ _ _ h => h) (Or.inr ⟨by rfl, rfl⟩) ?_ ?_
       rotate_left
       ·simp only [Act.put, zS1, zS2, zS3, i64_w, i32_w]
        rfl
       refine pure_ (i := 13) (N := some 43) (v := undef) (a' := ?_) #[zt,zt,zt,zt,zt,zt,zt,zt,zt,zt,zt,zt,zt,zt,zf,zf,zf,zf,zf] rfl rfl (any_of HT_.out (by kernel_rfl)) (fun _ _ _ h => h) (Or.inr ⟨by rfl, rfl⟩) ?_ ?_
       rotate_left
       ·simp only [Act.put, zS1, zS2, zS3, i64_w, i32_w]
        rfl
       refine pure_ (i := 14) (N := some 44) (v := undef) (a' := ?_) #[zt,zt,zt,zt,zt,zt,zt,zt,zt,zt,zt,zt,zt,zt,zt,zf,zf,zf,zf] rfl rfl (any_of HT_.out (by kernel_rfl)) (fun _ _ _ h => h) (Or.inr ⟨by rfl, rfl⟩) ?_ ?_
       rotate_left
       ·simp only [Act.put, zS1, zS2, zS3, i64_w, i32_w]
        rfl
       refine pure_ (i := 15) (N := some 45) (v := undef) (a' := ?_) #[zt,zt,zt,zt,zt,zt,zt,zt,zt,zt,zt,zt,zt,zt,zt,zt,zf,zf,zf] rfl rfl (any_of HT_.out (by kernel_rfl)) (fun _ _ _ h => h) (Or.inr ⟨by rfl, rfl⟩) ?_ ?_
       rotate_left
       ·simp only [Act.put, zS1, zS2, zS3, i64_w, i32_w]
        rfl
       refine pure_ (i := 16) (N := some 46) (v := undef) (a' := ?_) #[zt,zt,zt,zt,zt,zt,zt,zt,zt,zt,zt,zt,zt,zt,zt,zt,zt,zf,zf] rfl rfl (any_of HT_.out (by kernel_rfl)) (fun _ _ _ h => h) (Or.inr ⟨by rfl, rfl⟩) ?_ ?_
       rotate_left
       ·simp only [Act.put, zS1, zS2, zS3, i64_w, i32_w]
        rfl
       refine pure_ (i := 17) (N := some 47) (v := undef) (a' := ?_) #[zt,zt,zt,zt,zt,zt,zt,zt,zt,zt,zt,zt,zt,zt,zt,zt,zt,zt,zf] rfl rfl (any_of HT_.out (by kernel_rfl)) (fun _ _ _ h => h) (Or.inr ⟨by rfl, rfl⟩) ?_ ?_
       rotate_left
       ·simp only [Act.put, zS1, zS2, zS3, i64_w, i32_w]
        rfl
       refine pure_ (i := 18) (N := some 48) (v := ?_) (a' := ?_) #[zt,zt,zt,zt,zt,zt,zt,zt,zt,zt,zt,zt,zt,zt,zt,zt,zt,zt,zt] rfl rfl (any_of HT_.out (by kernel_rfl)) (fun _ _ _ h => h) (Or.inl ⟨by rfl, ?_⟩) ?_ ?_
       rotate_left
       ·intro w'
        go_simp
        with_reducible rfl
       rotate_left
       ·simp only [Act.put, zS1, zS2, zS3, i64_w, i32_w]
        rfl
       refine done_ (done_of HT_.out (by kernel_rfl)) ?_
       try go_wp2
       go_ret
       exact ⟨by first | rfl | (simp [errW_none, errW_some] <;> rfl) | (simp [*, errW_none, errW_some] <;> rfl), by repeat (first | (with_reducible first | exact HB.out | apply zBa | apply zBn | apply zBd | refine zBs ?_ GE190.out) | exact HB.out)⟩
      subst c17
      have H1 : ((spec_l20Find.f k2 l0_0 l0_1 ((rd_T94 l0_0 x4_2).f0)).bind fun t198 => (if t198 = x4_2 then (spec_PlanOk.l0 k2 y192 (wrap64 (x4_2 + 1)) l0_0 l0_1) else (some false))) = some r := by rw [if_pos rfl] at H; exact H
      clear H
      have H := H1
      clear H1
      replace H := zO.mp H
      obtain ⟨t198, A180, H⟩ := H
      replace H : (if t198 = x4_2 then (spec_PlanOk.l0 k2 y192 (wrap64 (x4_2 + 1)) l0_0 l0_1) else (some false)) = some r := H
      have A18 := zM A180
      clear A180
      by_cases c19 : t198 = x4_2
      case neg =>
       rw [if_neg c19] at H
       have c19b0 : (t198 == x4_2) = false := beq_eq_false_iff_ne.mpr c19
       have c19b1 : (t198 != x4_2) = true := bne_iff_ne.mpr c19
       obtain rfl := zI H
       obtain ⟨hcz24_0, hcz24_1, hfz24_0, hfz24_1⟩ := zc2 BK190.out
       try go_wp2
       have n0_ := zM (zRd HO_3.out)
       have n1_ := zM (zNd BK190.out)
       have n2_ := zM (zBd HB.out)
       clear HO_3
       clear BK190
       clear HB
       have HO_3 := n0_
       have BK190 := n1_
       have HB := n2_
       clear n0_ n1_ n2_
       have p195 : 0 ≤ (x4_2 : Int) := zT (by assumption)
       have q195 : x4_2 < (l0_0.length : Int) := zT (by assumption)
       obtain ⟨ad195, e195, hx195_0, hx195_1, hx195_2⟩ := at_T94 HR0_0.out x4_2 p195 q195
       have hw195_2 := hx195_2
       have hw195_1 := hx195_1
       have hw195_0 := hx195_0
       cases e195
       replace hx195_0 := (HB.out.cell (zW w _ hx195_0)).trans hx195_0
       replace hx195_1 := (HB.out.cell (zW w _ hx195_1)).trans hx195_1
       replace hx195_2 := (HB.out.cell (zW w _ hx195_2)).trans hx195_2
       replace p195 := eq_true p195
       replace q195 := eq_true q195
       have p197 : 0 ≤ (x4_2 : Int) := zT (by assumption)
       have q197 : x4_2 < (l0_0.length : Int) := zT (by assumption)
       obtain ⟨ad197, e197, hx197_0, hx197_1, hx197_2⟩ := at_T94 HR0_0.out x4_2 p197 q197
       have hw197_2 := hx197_2
       have hw197_1 := hx197_1
       have hw197_0 := hx197_0
       obtain rfl : ad195 = ad197 := (by injection e197)
       replace hx197_0 := (HB.out.cell (zW w _ hx197_0)).trans hx197_0
       replace hx197_1 := (HB.out.cell (zW w _ hx197_1)).trans hx197_1
       replace hx197_2 := (HB.out.cell (zW w _ hx197_2)).trans hx197_2
       replace p197 := eq_true p197
       replace q197 := eq_true q197
       refine start_ (n := 19) (S := fun w' => w'.cell? ⟨gb190, 0, none⟩ = some (.slice (some ad195) l0_0.length c0_0) ∧ w'.cell? ⟨gb190, 1, none⟩ = some (.slice A0_1 l0_1.length c0_1) ∧ w'.cell? (ad195.add ((x4_2).toNat * 3)) = some (.string ((rd_T94 l0_0 x4_2).f0)) ∧ w'.cell? ⟨(ad195.add ((x4_2).toNat * 3)).block, (ad195.add ((x4_2).toNat * 3)).off + 1, none⟩ = some (.int .i64 ((rd_T94 l0_0 x4_2).f1)) ∧ w'.cell? ⟨(ad195.add ((x4_2).toNat * 3)).block, (ad195.add ((x4_2).toNat * 3)).off + 2, none⟩ = some (.int .i64 ((rd_T94 l0_0 x4_2).f2)) ∧ w'.cell? (ad195.add ((x4_2).toNat * 3)) = some (.string ((rd_T94 l0_0 x4_2).f0)) ∧ w'.cell? ⟨(ad195.add ((x4_2).toNat * 3)).block, (ad195.add ((x4_2).toNat * 3)).off + 1, none⟩ = some (.int .i64 ((rd_T94 l0_0 x4_2).f1)) ∧ w'.cell? ⟨(ad195.add ((x4_2).toNat * 3)).block, (ad195.add ((x4_2).toNat * 3)).off + 2, none⟩ = some (.int .i64 ((rd_T94 l0_0 x4_2).f2))) (ds := []) #[zf,zf,zf,zf,zf,zf,zf,zf,zf,zf,zf,zf,zf,zf,zf,zf,zf,zf,zf] (by kernel_rfl) rfl rfl ⟨(blk_cell BK190.out 0).trans rfl, (blk_cell BK190.out 1).trans rfl, ((HB.out.cell (zW w _ hw195_0)).trans hw195_0), ((HB.out.cell (zW w _ hw195_1)).trans hw195_1), ((HB.out.cell (zW w _ hw195_2)).trans hw195_2), ((HB.out.cell (zW w _ hw197_0)).trans hw197_0), ((HB.out.cell (zW w _ hw197_1)).trans hw197_1), ((HB.out.cell (zW w _ hw197_2)).trans hw197_2)⟩ (fun hHeld => ?_); refine with_tabW spec_PlanOk.tab7 spec_PlanOk.bits7 (fun HT_ HW_ => ?_)
       generalize wr.drew = w25 at HO_3 BK190 HB hx195_0 hx195_1 hx195_2 hx197_0 hx197_1 hx197_2 hHeld ⊢
       refine pure_ (i := 0) (N := some 30) (v := ?_) (a' := ?_) #[zt,zf,zf,zf,zf,zf,zf,zf,zf,zf,zf,zf,zf,zf,zf,zf,zf,zf,zf] rfl rfl (any_of HT_.out (by kernel_rfl)) (fun _ _ _ h => h) (Or.inl ⟨by rfl, ?_⟩) ?_ ?_
       rotate_left
       ·intro w'
        go_simp
        with_reducible rfl
       rotate_left
       ·simp only [Act.put, zS1, zS2, zS3, i64_w, i32_w]
        rfl
       refine pure_ (i := 2) (N := some 32) (v := ?_) (a' := ?_) #[zt,zf,zt,zf,zf,zf,zf,zf,zf,zf,zf,zf,zf,zf,zf,zf,zf,zf,zf] rfl rfl (any_of HT_.out (by kernel_rfl)) (fun _ _ _ h => h) (Or.inl ⟨by rfl, ?_⟩) ?_ ?_
       rotate_left
       ·intro w'
        go_simp
        with_reducible rfl
       rotate_left
       ·simp only [Act.put, zS1, zS2, zS3, i64_w, i32_w]
        rfl
       refine take_ (i := 1) (N := some 31) (v := ?_) (a' := ?_) #[zt,zt,zt,zf,zf,zf,zf,zf,zf,zf,zf,zf,zf,zf,zf,zf,zf,zf,zf] rfl rfl (take_ofW HT_.out HW_.out (by kernel_rfl)) (fun _ _ _ h => h) (Or.inl ⟨by rfl, ?_⟩) hHeld ?_ ?_
       rotate_left
       ·rintro w' ⟨s0, s1, s2, s3, s4, s5, s6, s7⟩
        go_simp
        with_reducible rfl
       rotate_left
       ·simp only [Act.put, zS1, zS2, zS3, i64_w, i32_w]
        rfl
       refine pure_ (i := 3) (N := some 33) (v := ?_) (a' := ?_) #[zt,zt,zt,zt,zf,zf,zf,zf,zf,zf,zf,zf,zf,zf,zf,zf,zf,zf,zf] rfl rfl (any_of HT_.out (by kernel_rfl)) (fun _ _ _ h => h) (Or.inl ⟨by rfl, ?_⟩) ?_ ?_
       rotate_left
       ·intro w'
        go_simp
        with_reducible rfl
       rotate_left
       ·simp only [Act.put, zS1, zS2, zS3, i64_w, i32_w]
        rfl
       refine take_ (i := 4) (N := some 34) (v := ?_) (a' := ?_) #[zt,zt,zt,zt,zt,zf,zf,zf,zf,zf,zf,zf,zf,zf,zf,zf,zf,zf,zf] rfl rfl (take_ofW HT_.out HW_.out (by kernel_rfl)) (fun _ _ _ h => h) (Or.inl ⟨by rfl, ?_⟩) hHeld ?_ ?_
       rotate_left
       ·rintro w' ⟨s0, s1, s2, s3, s4, s5, s6, s7⟩
        go_simp
        with_reducible rfl
       rotate_left
       ·simp only [Act.put, zS1, zS2, zS3, i64_w, i32_w]
        rfl
       refine one_ (i := 5) (N := some 35) #[zt,zt,zt,zt,zt,zt,zf,zf,zf,zf,zf,zf,zf,zf,zf,zf,zf,zf,zf] rfl rfl (one_of HT_.out (by kernel_rfl)) (by decide) (fun K hK => ?_)
       refine goes_ Try.func60 (by kernel_rfl) rfl #[.agg #[.string ((rd_T94 l0_0 x4_2).f0), .int .i64 ((rd_T94 l0_0 x4_2).f1), .int .i64 ((rd_T94 l0_0 x4_2).f2)]] (by rfl) rfl rfl (by (try simp only [List.map_toArray, List.map_cons, List.map_nil]); first | done | rfl | (simp only [List.length_drop, List.length_take]; rfl)) ?_
       with_reducible refine (spec_l20Node.calls k2 ((rd_T94 l0_0 x4_2).f0) ((rd_T94 l0_0 x4_2).f1) ((rd_T94 l0_0 x4_2).f2) true _ A16.out).mono ?_
       rintro e w26 ⟨rfl, hb⟩
       refine ⟨_, rfl, ?_⟩
       have n0_ := zM (Kd.R_below (by (with_reducible repeat (first | apply zRa | apply zRn | apply zRd)); first | exact HO_3.out | (subst_vars; exact HO_3.out)) hb)
       have n1_ := zM (zNb (g := gb190) (o := .cells #[.slice (some ad195) l0_0.length c0_0, .slice A0_1 l0_1.length c0_1] 46 (0, 0)) (by (with_reducible repeat (first | apply zNn | apply zNd | apply zNa)); exact BK190.out) hb)
       have n2_ := zM (below_step (by repeat (first | (with_reducible first | exact HB.out | apply zBa | apply zBn | apply zBd | refine zBs ?_ GE190.out) | exact HB.out)) hb)
       clear HO_3
       clear BK190
       clear HB
       have HO_3 := n0_
       have BK190 := n1_
       have HB := n2_
       clear n0_ n1_ n2_
       (try clear hb)
       (try clear hb2)
       (try clear hk)
       (try clear hi)
       refine hK.out _ _ ⟨(blk_cell BK190.out 0).trans rfl, (blk_cell BK190.out 1).trans rfl, ((HB.out.cell (zW w _ hw195_0)).trans hw195_0), ((HB.out.cell (zW w _ hw195_1)).trans hw195_1), ((HB.out.cell (zW w _ hw195_2)).trans hw195_2), ((HB.out.cell (zW w _ hw197_0)).trans hw197_0), ((HB.out.cell (zW w _ hw197_1)).trans hw197_1), ((HB.out.cell (zW w _ hw197_2)).trans hw197_2)⟩ (fun hHeld => ?_)
       clear hK K
       refine norm_ (a' := ?_) ?_ ?_
       rotate_left
       ·show Act.put _ (some 35) _ = _
        simp only [Act.put, zS1, zS2, zS3, i64_w, i32_w]
        rfl
       refine pure_ (i := 6) (N := some 36) (v := ?_) (a' := ?_) #[zt,zt,zt,zt,zt,zt,zt,zf,zf,zf,zf,zf,zf,zf,zf,zf,zf,zf,zf] rfl rfl (any_of HT_.out (by kernel_rfl)) (fun _ _ _ h => h) (Or.inl ⟨by rfl, ?_⟩) ?_ ?_
       rotate_left
       ·intro w'
        go_simp
        with_reducible rfl
       rotate_left
       ·simp only [Act.put, zS1, zS2, zS3, i64_w, i32_w]
        rfl
       refine pure_ (i := 7) (N := some 37) (v := ?_) (a' := ?_) #[zt,zt,zt,zt,zt,zt,zt,zt,zf,zf,zf,zf,zf,zf,zf,zf,zf,zf,zf] rfl rfl (any_of HT_.out (by kernel_rfl)) (fun _ _ _ h => h) (Or.inl ⟨by rfl, ?_⟩) ?_ ?_
       rotate_left
       ·intro w'
        go_simp
        with_reducible rfl
       rotate_left
       ·simp only [Act.put, zS1, zS2, zS3, i64_w, i32_w]
        rfl
       refine pure_ (i := 9) (N := some 39) (v := ?_) (a' := ?_) #[zt,zt,zt,zt,zt,zt,zt,zt,zf,zt,zf,zf,zf,zf,zf,zf,zf,zf,zf] rfl rfl (any_of HT_.out (by kernel_rfl)) (fun _ _ _ h => h) (Or.inl ⟨by rfl, ?_⟩) ?_ ?_
       rotate_left
       ·intro w'
        go_simp
        with_reducible rfl
       rotate_left
       ·simp only [Act.put, zS1, zS2, zS3, i64_w, i32_w]
        rfl
       refine pure_ (i := 11) (N := some 41) (v := ?_) (a' := ?_) #[zt,zt,zt,zt,zt,zt,zt,zt,zf,zt,zf,zt,zf,zf,zf,zf,zf,zf,zf] rfl rfl (any_of HT_.out (by kernel_rfl)) (fun _ _ _ h => h) (Or.inl ⟨by rfl, ?_⟩) ?_ ?_
       rotate_left
       ·intro w'
        go_simp
        with_reducible rfl
       rotate_left
       ·simp only [Act.put, zS1, zS2, zS3, i64_w, i32_w]
        rfl
       refine pure_ (i := 16) (N := some 46) (v := ?_) (a' := ?_) #[zt,zt,zt,zt,zt,zt,zt,zt,zf,zt,zf,zt,zf,zf,zf,zf,zt,zf,zf] rfl rfl (any_of HT_.out (by kernel_rfl)) (fun _ _ _ h => h) (Or.inl ⟨by rfl, ?_⟩) ?_ ?_
       rotate_left
       ·intro w'
        go_simp
        with_reducible rfl
       rotate_left
       ·simp only [Act.put, zS1, zS2, zS3, i64_w, i32_w]
        rfl
       refine take_ (i := 8) (N := some 38) (v := ?_) (a' := ?_) #[zt,zt,zt,zt,zt,zt,zt,zt,zt,zt,zf,zt,zf,zf,zf,zf,zt,zf,zf] rfl rfl (take_ofW HT_.out HW_.out (by kernel_rfl)) (fun _ _ _ h => h) (Or.inl ⟨by rfl, ?_⟩) hHeld ?_ ?_
       rotate_left
       ·rintro w' ⟨s0, s1, s2, s3, s4, s5, s6, s7⟩
        go_simp
        with_reducible rfl
       rotate_left
       ·simp only [Act.put, zS1, zS2, zS3, i64_w, i32_w]
        rfl
       refine take_ (i := 10) (N := some 40) (v := ?_) (a' := ?_) #[zt,zt,zt,zt,zt,zt,zt,zt,zt,zt,zt,zt,zf,zf,zf,zf,zt,zf,zf] rfl rfl (take_ofW HT_.out HW_.out (by kernel_rfl)) (fun _ _ _ h => h) (Or.inl ⟨by rfl, ?_⟩) hHeld ?_ ?_
       rotate_left
       ·rintro w' ⟨s0, s1, s2, s3, s4, s5, s6, s7⟩
        go_simp
        with_reducible rfl
       rotate_left
       ·simp only [Act.put, zS1, zS2, zS3, i64_w, i32_w]
        rfl
       refine pure_ (i := 12) (N := some 42) (v := ?_) (a' := ?_) #[zt,zt,zt,zt,zt,zt,zt,zt,zt,zt,zt,zt,zt,zf,zf,zf,zt,zf,zf] rfl rfl (any_of HT_.out (by kernel_rfl)) (fun _ _ _ h => h) (Or.inl ⟨by rfl, ?_⟩) ?_ ?_
       rotate_left
       ·intro w'
        go_simp
        with_reducible rfl
       rotate_left
       ·simp only [Act.put, zS1, zS2, zS3, i64_w, i32_w]
        rfl
       refine pure_ (i := 13) (N := some 43) (v := ?_) (a' := ?_) #[zt,zt,zt,zt,zt,zt,zt,zt,zt,zt,zt,zt,zt,zt,zf,zf,zt,zf,zf] rfl rfl (any_of HT_.out (by kernel_rfl)) (fun _ _ _ h => h) (Or.inl ⟨by rfl, ?_⟩) ?_ ?_
       rotate_left
       ·intro w'
        go_simp
        with_reducible rfl
       rotate_left
       ·simp only [Act.put, zS1, zS2, zS3, i64_w, i32_w]
        rfl
       refine take_ (i := 14) (N := some 44) (v := ?_) (a' := ?_) #[zt,zt,zt,zt,zt,zt,zt,zt,zt,zt,zt,zt,zt,zt,zt,zf,zt,zf,zf] rfl rfl (take_ofW HT_.out HW_.out (by kernel_rfl)) (fun _ _ _ h => h) (Or.inl ⟨by rfl, ?_⟩) hHeld ?_ ?_
       rotate_left
       ·rintro w' ⟨s0, s1, s2, s3, s4, s5, s6, s7⟩
        go_simp
        with_reducible rfl
       rotate_left
       ·simp only [Act.put, zS1, zS2, zS3, i64_w, i32_w]
        rfl
       refine one_ (i := 15) (N := some 45) #[zt,zt,zt,zt,zt,zt,zt,zt,zt,zt,zt,zt,zt,zt,zt,zt,zt,zf,zf] rfl rfl (one_of HT_.out (by kernel_rfl)) (by decide) (fun K hK => ?_)
       refine goes_ Try.func61 (by kernel_rfl) rfl #[.agg #[.slice (some ad195) l0_0.length c0_0, .slice A0_1 l0_1.length c0_1], .string ((rd_T94 l0_0 x4_2).f0)] (by rfl) rfl rfl (by (try simp only [List.map_toArray, List.map_cons, List.map_nil]); first | done | rfl | (simp only [List.length_drop, List.length_take]; rfl)) ?_
       with_reducible refine (spec_l20Find.calls k2 _ _ l0_0 _ _ l0_1 ((rd_T94 l0_0 x4_2).f0) t198 _ ?side1 ?side2 ?side3 ?side4 A18.out).mono ?_
       (case side1 => repeat (first | exact (Kd.C_below HR0_0.out HB.out) | (with_reducible first | refine zCa ?_ _ | refine zCn ?_ _ | refine zCd ?_)))
       (case side2 => exact HC0_0.out)
       (case side3 => repeat (first | exact (Kd.C_below HR0_1.out HB.out) | (with_reducible first | refine zCa ?_ _ | refine zCn ?_ _ | refine zCd ?_)))
       (case side4 => exact HC0_1.out)
       rintro e w27 ⟨rfl, hb⟩
       refine ⟨_, rfl, ?_⟩
       have n0_ := zM (Kd.R_below (by (with_reducible repeat (first | apply zRa | apply zRn | apply zRd)); first | exact HO_3.out | (subst_vars; exact HO_3.out)) hb)
       have n1_ := zM (zNb (g := gb190) (o := .cells #[.slice (some ad195) l0_0.length c0_0, .slice A0_1 l0_1.length c0_1] 46 (0, 0)) (by (with_reducible repeat (first | apply zNn | apply zNd | apply zNa)); exact BK190.out) hb)
       have n2_ := zM (below_step (by repeat (first | (with_reducible first | exact HB.out | apply zBa | apply zBn | apply zBd | refine zBs ?_ GE190.out) | exact HB.out)) hb)
       clear HO_3
       clear BK190
       clear HB
       have HO_3 := n0_
       have BK190 := n1_
       have HB := n2_
       clear n0_ n1_ n2_
       (try clear hb)
       (try clear hb2)
       (try clear hk)
       (try clear hi)
       refine hK.out _ _ ⟨(blk_cell BK190.out 0).trans rfl, (blk_cell BK190.out 1).trans rfl, ((HB.out.cell (zW w _ hw195_0)).trans hw195_0), ((HB.out.cell (zW w _ hw195_1)).trans hw195_1), ((HB.out.cell (zW w _ hw195_2)).trans hw195_2), ((HB.out.cell (zW w _ hw197_0)).trans hw197_0), ((HB.out.cell (zW w _ hw197_1)).trans hw197_1), ((HB.out.cell (zW w _ hw197_2)).trans hw197_2)⟩ (fun hHeld => ?_)
       clear hK K
       refine norm_ (a' := ?_) ?_ ?_
       rotate_left
       ·show Act.put _ (some 45) _ = _
        simp only [Act.put, zS1, zS2, zS3, i64_w, i32_w]
        rfl
       refine pure_ (i := 17) (N := some 47) (v := ?_) (a' := ?_) #[zt,zt,zt,zt,zt,zt,zt,zt,zt,zt,zt,zt,zt,zt,zt,zt,zt,zt,zf] rfl rfl (any_of HT_.out (by kernel_rfl)) (fun _ _ _ h => h) (Or.inl ⟨by rfl, ?_⟩) ?_ ?_
       rotate_left
       ·intro w'
        go_simp
        with_reducible rfl
       rotate_left
       ·simp only [Act.put, zS1, zS2, zS3, i64_w, i32_w]
        rfl
       refine pure_ (i := 18) (N := some 48) (v := ?_) (a' := ?_) #[zt,zt,zt,zt,zt,zt,zt,zt,zt,zt,zt,zt,zt,zt,zt,zt,zt,zt,zt] rfl rfl (any_of HT_.out (by kernel_rfl)) (fun _ _ _ h => h) (Or.inl ⟨by rfl, ?_⟩) ?_ ?_
       rotate_left
       ·intro w'
        go_simp
        with_reducible rfl
       rotate_left
       ·simp only [Act.put, zS1, zS2, zS3, i64_w, i32_w]
        rfl
       refine done_ (done_of HT_.out (by kernel_rfl)) ?_
       try go_wp2
       go_ret
       exact ⟨by first | rfl | (simp [errW_none, errW_some] <;> rfl) | (simp [*, errW_none, errW_some] <;> rfl), by repeat (first | (with_reducible first | exact HB.out | apply zBa | apply zBn | apply zBd | refine zBs ?_ GE190.out) | exact HB.out)⟩
      rw [if_pos c19] at H
      have c19b0 : (t198 == x4_2) = true := beq_iff_eq.mpr c19
      have c19b1 : (t198 != x4_2) = false := bne_eq_false_iff_eq.mpr c19
      clear c19
      have H' := zM H
      clear H
      obtain ⟨hcz20_0, hcz20_1, hfz20_0, hfz20_1⟩ := zc2 BK190.out
      try go_wp2
      have n0_ := zM (zRd HO_3.out)
      have n1_ := zM (zNd BK190.out)
      have n2_ := zM (zBd HB.out)
      clear HO_3
      clear BK190
      clear HB
      have HO_3 := n0_
      have BK190 := n1_
      have HB := n2_
      clear n0_ n1_ n2_
      have p195 : 0 ≤ (x4_2 : Int) := zT (by assumption)
      have q195 : x4_2 < (l0_0.length : Int) := zT (by assumption)
      obtain ⟨ad195, e195, hx195_0, hx195_1, hx195_2⟩ := at_T94 HR0_0.out x4_2 p195 q195
      have hw195_2 := hx195_2
      have hw195_1 := hx195_1
      have hw195_0 := hx195_0
      cases e195
      replace hx195_0 := (HB.out.cell (zW w _ hx195_0)).trans hx195_0
      replace hx195_1 := (HB.out.cell (zW w _ hx195_1)).trans hx195_1
      replace hx195_2 := (HB.out.cell (zW w _ hx195_2)).trans hx195_2
      replace p195 := eq_true p195
      replace q195 := eq_true q195
      have p197 : 0 ≤ (x4_2 : Int) := zT (by assumption)
      have q197 : x4_2 < (l0_0.length : Int) := zT (by assumption)
      obtain ⟨ad197, e197, hx197_0, hx197_1, hx197_2⟩ := at_T94 HR0_0.out x4_2 p197 q197
      have hw197_2 := hx197_2
      have hw197_1 := hx197_1
      have hw197_0 := hx197_0
      obtain rfl : ad195 = ad197 := (by injection e197)
      replace hx197_0 := (HB.out.cell (zW w _ hx197_0)).trans hx197_0
      replace hx197_1 := (HB.out.cell (zW w _ hx197_1)).trans hx197_1
      replace hx197_2 := (HB.out.cell (zW w _ hx197_2)).trans hx197_2
      replace p197 := eq_true p197
      replace q197 := eq_true q197
      refine start_ (n := 19) (S := fun w' => w'.cell? ⟨gb190, 0, none⟩ = some (.slice (some ad195) l0_0.length c0_0) ∧ w'.cell? ⟨gb190, 1, none⟩ = some (.slice A0_1 l0_1.length c0_1) ∧ w'.cell? (ad195.add ((x4_2).toNat * 3)) = some (.string ((rd_T94 l0_0 x4_2).f0)) ∧ w'.cell? ⟨(ad195.add ((x4_2).toNat * 3)).block, (ad195.add ((x4_2).toNat * 3)).off + 1, none⟩ = some (.int .i64 ((rd_T94 l0_0 x4_2).f1)) ∧ w'.cell? ⟨(ad195.add ((x4_2).toNat * 3)).block, (ad195.add ((x4_2).toNat * 3)).off + 2, none⟩ = some (.int .i64 ((rd_T94 l0_0 x4_2).f2)) ∧ w'.cell? (ad195.add ((x4_2).toNat * 3)) = some (.string ((rd_T94 l0_0 x4_2).f0)) ∧ w'.cell? ⟨(ad195.add ((x4_2).toNat * 3)).block, (ad195.add ((x4_2).toNat * 3)).off + 1, none⟩ = some (.int .i64 ((rd_T94 l0_0 x4_2).f1)) ∧ w'.cell? ⟨(ad195.add ((x4_2).toNat * 3)).block, (ad195.add ((x4_2).toNat * 3)).off + 2, none⟩ = some (.int .i64 ((rd_T94 l0_0 x4_2).f2))) (ds := []) #[zf,zf,zf,zf,zf,zf,zf,zf,zf,zf,zf,zf,zf,zf,zf,zf,zf,zf,zf] (by kernel_rfl) rfl rfl ⟨(blk_cell BK190.out 0).trans rfl, (blk_cell BK190.out 1).trans rfl, ((HB.out.cell (zW w _ hw195_0)).trans hw195_0), ((HB.out.cell (zW w _ hw195_1)).trans hw195_1), ((HB.out.cell (zW w _ hw195_2)).trans hw195_2), ((HB.out.cell (zW w _ hw197_0)).trans hw197_0), ((HB.out.cell (zW w _ hw197_1)).trans hw197_1), ((HB.out.cell (zW w _ hw197_2)).trans hw197_2)⟩ (fun hHeld => ?_); refine with_tabW spec_PlanOk.tab7 spec_PlanOk.bits7 (fun HT_ HW_ => ?_)
      generalize wr.drew = w21 at HO_3 BK190 HB hx195_0 hx195_1 hx195_2 hx197_0 hx197_1 hx197_2 hHeld ⊢
      refine pure_ (i := 0) (N := some 30) (v := ?_) (a' := ?_) #[zt,zf,zf,zf,zf,zf,zf,zf,zf,zf,zf,zf,zf,zf,zf,zf,zf,zf,zf] rfl rfl (any_of HT_.out (by kernel_rfl)) (fun _ _ _ h => h) (Or.inl ⟨by rfl, ?_⟩) ?_ ?_
      rotate_left
      ·intro w'
       go_simp
       with_reducible rfl
      rotate_left
      ·simp only [Act.put, zS1, zS2, zS3, i64_w, i32_w]
       rfl
      refine pure_ (i := 2) (N := some 32) (v := ?_) (a' := ?_) #[zt,zf,zt,zf,zf,zf,zf,zf,zf,zf,zf,zf,zf,zf,zf,zf,zf,zf,zf] rfl rfl (any_of HT_.out (by kernel_rfl)) (fun _ _ _ h => h) (Or.inl ⟨by rfl, ?_⟩) ?_ ?_
      rotate_left
      ·intro w'
       go_simp
       with_reducible rfl
      rotate_left
      ·simp only [Act.put, zS1, zS2, zS3, i64_w, i32_w]
       rfl
      refine take_ (i := 1) (N := some 31) (v := ?_) (a' := ?_) #[zt,zt,zt,zf,zf,zf,zf,zf,zf,zf,zf,zf,zf,zf,zf,zf,zf,zf,zf] rfl rfl (take_ofW HT_.out HW_.out (by kernel_rfl)) (fun _ _ _ h => h) (Or.inl ⟨by rfl, ?_⟩) hHeld ?_ ?_
      rotate_left
      ·rintro w' ⟨s0, s1, s2, s3, s4, s5, s6, s7⟩
       go_simp
       with_reducible rfl
      rotate_left
      ·simp only [Act.put, zS1, zS2, zS3, i64_w, i32_w]
       rfl
      refine pure_ (i := 3) (N := some 33) (v := ?_) (a' := ?_) #[zt,zt,zt,zt,zf,zf,zf,zf,zf,zf,zf,zf,zf,zf,zf,zf,zf,zf,zf] rfl rfl (any_of HT_.out (by kernel_rfl)) (fun _ _ _ h => h) (Or.inl ⟨by rfl, ?_⟩) ?_ ?_
      rotate_left
      ·intro w'
       go_simp
       with_reducible rfl
      rotate_left
      ·simp only [Act.put, zS1, zS2, zS3, i64_w, i32_w]
       rfl
      refine take_ (i := 4) (N := some 34) (v := ?_) (a' := ?_) #[zt,zt,zt,zt,zt,zf,zf,zf,zf,zf,zf,zf,zf,zf,zf,zf,zf,zf,zf] rfl rfl (take_ofW HT_.out HW_.out (by kernel_rfl)) (fun _ _ _ h => h) (Or.inl ⟨by rfl, ?_⟩) hHeld ?_ ?_
      rotate_left
      ·rintro w' ⟨s0, s1, s2, s3, s4, s5, s6, s7⟩
       go_simp
       with_reducible rfl
      rotate_left
      ·simp only [Act.put, zS1, zS2, zS3, i64_w, i32_w]
       rfl
      refine one_ (i := 5) (N := some 35) #[zt,zt,zt,zt,zt,zt,zf,zf,zf,zf,zf,zf,zf,zf,zf,zf,zf,zf,zf] rfl rfl (one_of HT_.out (by kernel_rfl)) (by decide) (fun K hK => ?_)
      refine goes_ Try.func60 (by kernel_rfl) rfl #[.agg #[.string ((rd_T94 l0_0 x4_2).f0), .int .i64 ((rd_T94 l0_0 x4_2).f1), .int .i64 ((rd_T94 l0_0 x4_2).f2)]] (by rfl) rfl rfl (by (try simp only [List.map_toArray, List.map_cons, List.map_nil]); first | done | rfl | (simp only [List.length_drop, List.length_take]; rfl)) ?_
      with_reducible refine (spec_l20Node.calls k2 ((rd_T94 l0_0 x4_2).f0) ((rd_T94 l0_0 x4_2).f1) ((rd_T94 l0_0 x4_2).f2) true _ A16.out).mono ?_
      rintro e w22 ⟨rfl, hb⟩
      refine ⟨_, rfl, ?_⟩
      have n0_ := zM (Kd.R_below (by (with_reducible repeat (first | apply zRa | apply zRn | apply zRd)); first | exact HO_3.out | (subst_vars; exact HO_3.out)) hb)
      have n1_ := zM (zNb (g := gb190) (o := .cells #[.slice (some ad195) l0_0.length c0_0, .slice A0_1 l0_1.length c0_1] 46 (0, 0)) (by (with_reducible repeat (first | apply zNn | apply zNd | apply zNa)); exact BK190.out) hb)
      have n2_ := zM (below_step (by repeat (first | (with_reducible first | exact HB.out | apply zBa | apply zBn | apply zBd | refine zBs ?_ GE190.out) | exact HB.out)) hb)
      clear HO_3
      clear BK190
      clear HB
      have HO_3 := n0_
      have BK190 := n1_
      have HB := n2_
      clear n0_ n1_ n2_
      (try clear hb)
      (try clear hb2)
      (try clear hk)
      (try clear hi)
      refine hK.out _ _ ⟨(blk_cell BK190.out 0).trans rfl, (blk_cell BK190.out 1).trans rfl, ((HB.out.cell (zW w _ hw195_0)).trans hw195_0), ((HB.out.cell (zW w _ hw195_1)).trans hw195_1), ((HB.out.cell (zW w _ hw195_2)).trans hw195_2), ((HB.out.cell (zW w _ hw197_0)).trans hw197_0), ((HB.out.cell (zW w _ hw197_1)).trans hw197_1), ((HB.out.cell (zW w _ hw197_2)).trans hw197_2)⟩ (fun hHeld => ?_)
      clear hK K
      refine norm_ (a' := ?_) ?_ ?_
      rotate_left
      ·show Act.put _ (some 35) _ = _
       simp only [Act.put, zS1, zS2, zS3, i64_w, i32_w]
       rfl
      refine pure_ (i := 6) (N := some 36) (v := ?_) (a' := ?_) #[zt,zt,zt,zt,zt,zt,zt,zf,zf,zf,zf,zf,zf,zf,zf,zf,zf,zf,zf] rfl rfl (any_of HT_.out (by kernel_rfl)) (fun _ _ _ h => h) (Or.inl ⟨by rfl, ?_⟩) ?_ ?_
      rotate_left
      ·intro w'
       go_simp
       with_reducible rfl
      rotate_left
      ·simp only [Act.put, zS1, zS2, zS3, i64_w, i32_w]
       rfl
      refine pure_ (i := 7) (N := some 37) (v := ?_) (a' := ?_) #[zt,zt,zt,zt,zt,zt,zt,zt,zf,zf,zf,zf,zf,zf,zf,zf,zf,zf,zf] rfl rfl (any_of HT_.out (by kernel_rfl)) (fun _ _ _ h => h) (Or.inl ⟨by rfl, ?_⟩) ?_ ?_
      rotate_left
      ·intro w'
       go_simp
       with_reducible rfl
      rotate_left
      ·simp only [Act.put, zS1, zS2, zS3, i64_w, i32_w]
       rfl
      refine pure_ (i := 9) (N := some 39) (v := ?_) (a' := ?_) #[zt,zt,zt,zt,zt,zt,zt,zt,zf,zt,zf,zf,zf,zf,zf,zf,zf,zf,zf] rfl rfl (any_of HT_.out (by kernel_rfl)) (fun _ _ _ h => h) (Or.inl ⟨by rfl, ?_⟩) ?_ ?_
      rotate_left
      ·intro w'
       go_simp
       with_reducible rfl
      rotate_left
      ·simp only [Act.put, zS1, zS2, zS3, i64_w, i32_w]
       rfl
      refine pure_ (i := 11) (N := some 41) (v := ?_) (a' := ?_) #[zt,zt,zt,zt,zt,zt,zt,zt,zf,zt,zf,zt,zf,zf,zf,zf,zf,zf,zf] rfl rfl (any_of HT_.out (by kernel_rfl)) (fun _ _ _ h => h) (Or.inl ⟨by rfl, ?_⟩) ?_ ?_
      rotate_left
      ·intro w'
       go_simp
       with_reducible rfl
      rotate_left
      ·simp only [Act.put, zS1, zS2, zS3, i64_w, i32_w]
       rfl
      refine pure_ (i := 16) (N := some 46) (v := ?_) (a' := ?_) #[zt,zt,zt,zt,zt,zt,zt,zt,zf,zt,zf,zt,zf,zf,zf,zf,zt,zf,zf] rfl rfl (any_of HT_.out (by kernel_rfl)) (fun _ _ _ h => h) (Or.inl ⟨by rfl, ?_⟩) ?_ ?_
      rotate_left
      ·intro w'
       go_simp
       with_reducible rfl
      rotate_left
      ·simp only [Act.put, zS1, zS2, zS3, i64_w, i32_w]
       rfl
      refine take_ (i := 8) (N := some 38) (v := ?_) (a' := ?_) #[zt,zt,zt,zt,zt,zt,zt,zt,zt,zt,zf,zt,zf,zf,zf,zf,zt,zf,zf] rfl rfl (take_ofW HT_.out HW_.out (by kernel_rfl)) (fun _ _ _ h => h) (Or.inl ⟨by rfl, ?_⟩) hHeld ?_ ?_
      rotate_left
      ·rintro w' ⟨s0, s1, s2, s3, s4, s5, s6, s7⟩
       go_simp
       with_reducible rfl
      rotate_left
      ·simp only [Act.put, zS1, zS2, zS3, i64_w, i32_w]
       rfl
      refine take_ (i := 10) (N := some 40) (v := ?_) (a' := ?_) #[zt,zt,zt,zt,zt,zt,zt,zt,zt,zt,zt,zt,zf,zf,zf,zf,zt,zf,zf] rfl rfl (take_ofW HT_.out HW_.out (by kernel_rfl)) (fun _ _ _ h => h) (Or.inl ⟨by rfl, ?_⟩) hHeld ?_ ?_
      rotate_left
      ·rintro w' ⟨s0, s1, s2, s3, s4, s5, s6, s7⟩
       go_simp
       with_reducible rfl
      rotate_left
      ·simp only [Act.put, zS1, zS2, zS3, i64_w, i32_w]
       rfl
      refine pure_ (i := 12) (N := some 42) (v := ?_) (a' := ?_) #[zt,zt,zt,zt,zt,zt,zt,zt,zt,zt,zt,zt,zt,zf,zf,zf,zt,zf,zf] rfl rfl (any_of HT_.out (by kernel_rfl)) (fun _ _ _ h => h) (Or.inl ⟨by rfl, ?_⟩) ?_ ?_
      rotate_left
      ·intro w'
       go_simp
       with_reducible rfl
      rotate_left
      ·simp only [Act.put, zS1, zS2, zS3, i64_w, i32_w]
       rfl
      refine pure_ (i := 13) (N := some 43) (v := ?_) (a' := ?_) #[zt,zt,zt,zt,zt,zt,zt,zt,zt,zt,zt,zt,zt,zt,zf,zf,zt,zf,zf] rfl rfl (any_of HT_.out (by kernel_rfl)) (fun _ _ _ h => h) (Or.inl ⟨by rfl, ?_⟩) ?_ ?_
      rotate_left
      ·intro w'
       go_simp
       with_reducible rfl
      rotate_left
      ·simp only [Act.put, zS1, zS2, zS3, i64_w, i32_w]
       rfl
      refine take_ (i := 14) (N := some 44) (v := ?_) (a' := ?_) #[zt,zt,zt,zt,zt,zt,zt,zt,zt,zt,zt,zt,zt,zt,zt,zf,zt,zf,zf] rfl rfl (take_ofW HT_.out HW_.out (by kernel_rfl)) (fun _ _ _ h => h) (Or.inl ⟨by rfl, ?_⟩) hHeld ?_ ?_
      rotate_left
      ·rintro w' ⟨s0, s1, s2, s3, s4, s5, s6, s7⟩
       go_simp
       with_reducible rfl
      rotate_left
      ·simp only [Act.put, zS1, zS2, zS3, i64_w, i32_w]
       rfl
      refine one_ (i := 15) (N := some 45) #[zt,zt,zt,zt,zt,zt,zt,zt,zt,zt,zt,zt,zt,zt,zt,zt,zt,zf,zf] rfl rfl (one_of HT_.out (by kernel_rfl)) (by decide) (fun K hK => ?_)
      refine goes_ Try.func61 (by kernel_rfl) rfl #[.agg #[.slice (some ad195) l0_0.length c0_0, .slice A0_1 l0_1.length c0_1], .string ((rd_T94 l0_0 x4_2).f0)] (by rfl) rfl rfl (by (try simp only [List.map_toArray, List.map_cons, List.map_nil]); first | done | rfl | (simp only [List.length_drop, List.length_take]; rfl)) ?_
      with_reducible refine (spec_l20Find.calls k2 _ _ l0_0 _ _ l0_1 ((rd_T94 l0_0 x4_2).f0) t198 _ ?side1 ?side2 ?side3 ?side4 A18.out).mono ?_
      (case side1 => repeat (first | exact (Kd.C_below HR0_0.out HB.out) | (with_reducible first | refine zCa ?_ _ | refine zCn ?_ _ | refine zCd ?_)))
      (case side2 => exact HC0_0.out)
      (case side3 => repeat (first | exact (Kd.C_below HR0_1.out HB.out) | (with_reducible first | refine zCa ?_ _ | refine zCn ?_ _ | refine zCd ?_)))
      (case side4 => exact HC0_1.out)
      rintro e w23 ⟨rfl, hb⟩
      refine ⟨_, rfl, ?_⟩
      have n0_ := zM (Kd.R_below (by (with_reducible repeat (first | apply zRa | apply zRn | apply zRd)); first | exact HO_3.out | (subst_vars; exact HO_3.out)) hb)
      have n1_ := zM (zNb (g := gb190) (o := .cells #[.slice (some ad195) l0_0.length c0_0, .slice A0_1 l0_1.length c0_1] 46 (0, 0)) (by (with_reducible repeat (first | apply zNn | apply zNd | apply zNa)); exact BK190.out) hb)
      have n2_ := zM (below_step (by repeat (first | (with_reducible first | exact HB.out | apply zBa | apply zBn | apply zBd | refine zBs ?_ GE190.out) | exact HB.out)) hb)
      clear HO_3
      clear BK190
      clear HB
      have HO_3 := n0_
      have BK190 := n1_
      have HB := n2_
      clear n0_ n1_ n2_
      (try clear hb)
      (try clear hb2)
      (try clear hk)
      (try clear hi)
      refine hK.out _ _ ⟨(blk_cell BK190.out 0).trans rfl, (blk_cell BK190.out 1).trans rfl, ((HB.out.cell (zW w _ hw195_0)).trans hw195_0), ((HB.out.cell (zW w _ hw195_1)).trans hw195_1), ((HB.out.cell (zW w _ hw195_2)).trans hw195_2), ((HB.out.cell (zW w _ hw197_0)).trans hw197_0), ((HB.out.cell (zW w _ hw197_1)).trans hw197_1), ((HB.out.cell (zW w _ hw197_2)).trans hw197_2)⟩ (fun hHeld => ?_)
      clear hK K
      refine norm_ (a' := ?_) ?_ ?_
      rotate_left
      ·show Act.put _ (some 45) _ = _
       simp only [Act.put, zS1, zS2, zS3, i64_w, i32_w]
       rfl
      refine pure_ (i := 17) (N := some 47) (v := ?_) (a' := ?_) #[zt,zt,zt,zt,zt,zt,zt,zt,zt,zt,zt,zt,zt,zt,zt,zt,zt,zt,zf] rfl rfl (any_of HT_.out (by kernel_rfl)) (fun _ _ _ h => h) (Or.inl ⟨by rfl, ?_⟩) ?_ ?_
      rotate_left
      ·intro w'
       go_simp
       with_reducible rfl
      rotate_left
      ·simp only [Act.put, zS1, zS2, zS3, i64_w, i32_w]
       rfl
      refine pure_ (i := 18) (N := some 48) (v := ?_) (a' := ?_) #[zt,zt,zt,zt,zt,zt,zt,zt,zt,zt,zt,zt,zt,zt,zt,zt,zt,zt,zt] rfl rfl (any_of HT_.out (by kernel_rfl)) (fun _ _ _ h => h) (Or.inl ⟨by rfl, ?_⟩) ?_ ?_
      rotate_left
      ·intro w'
       go_simp
       with_reducible rfl
      rotate_left
      ·simp only [Act.put, zS1, zS2, zS3, i64_w, i32_w]
       rfl
      refine done_ (done_of HT_.out (by kernel_rfl)) ?_
      try go_wp2
      go_roundg k2
      case measure => have := HJ1.out; have := HK2.out; omega
      case rel => exact ⟨(wrap64 (x4_2 + 1)), (by first | rfl | (simp; done) | (simp [*]; done)), H', ⟨by have := HJ1.out; have := HK2.out; omega⟩, ⟨by (with_reducible repeat (first | apply zRa | apply zRn | apply zRd)); first | exact HO_3.out | (subst_vars; exact HO_3.out)⟩, ⟨by (with_reducible repeat (first | apply zNn | apply zNd | apply zNa)); exact BK190.out⟩, ⟨by repeat (first | (with_reducible first | exact HB.out | apply zBa | apply zBn | apply zBd | refine zBs ?_ GE190.out) | exact HB.out)⟩⟩
     rw [if_neg c14] at H
     have c14b0 : decide (x4_2 < (l0_0.length : Int)) = false := decide_eq_false c14
     clear c14
     have H' := zM H
     clear H
     obtain ⟨hcz31_0, hcz31_1, hfz31_0, hfz31_1⟩ := zc2 BK190.out
     go_wp2
     (try simp only [Act.put, zS1, zS2, zS3])
     go_loopg [5] k2 (fun kq v5 w' => ∃ (x3_3 : List Int) (x5_3 : Int), v5 = .int .i64 x5_3 ∧ Aside0 (spec_PlanOk.l1 kq x3_3 x5_3 l0_0 l0_1 = some r) ∧ Aside0 (kq ≤ k2) ∧ Aside0 (Kd.R (Kd.int .i64) 3 w' w.heap.size (fun _ => True) v193 x3_3) ∧ Aside0 (w'.heap[gb190]? = some (.cells #[(.slice A0_0 l0_0.length c0_0), (.slice A0_1 l0_1.length c0_1)] 46 (0, 0))) ∧ Aside0 (Below w.heap.size w w'))
     case atStart => exact ⟨(y192), (0), (by first | rfl | (simp; done) | (simp [*]; done)), H', ⟨Nat.le_refl _⟩, ⟨by (with_reducible repeat (first | apply zRa | apply zRn | apply zRd)); first | exact HO_3.out | (subst_vars; exact HO_3.out)⟩, ⟨by (with_reducible repeat (first | apply zNn | apply zNd | apply zNa)); exact BK190.out⟩, ⟨by repeat (first | (with_reducible first | exact HB.out | apply zBa | apply zBn | apply zBd | refine zBs ?_ GE190.out) | exact HB.out)⟩⟩
     case round =>
      clear H'
      try clear c1
      try clear p1
      try clear q1
      try clear hx1
      try clear p2
      try clear c6
      try clear p6
      try clear c14
      try clear c14b0
      try clear c15
      try clear c17
      try clear c19
      try clear c19b0
      try clear c19b1
      try clear p19
      try clear q19
      try clear hx19
      try clear hcz24_0
      try clear hcz24_1
      try clear hcz28_0
      try clear hcz28_1
      try clear hcz31_0
      try clear hcz31_1
      try clear hfz24_0
      try clear hfz24_1
      try clear hfz28_0
      try clear hfz28_1
      try clear hfz31_0
      try clear hfz31_1
      try clear hx195_0
      try clear hx195_1
      try clear hx195_2
      try clear hx197_0
      try clear hx197_1
      try clear hx197_2
      try clear p195
      try clear p197
      try clear q195
      try clear q197
      obtain ⟨x3_3, x5_3, rfl, HA, HK3, HO_3, BK190, HB⟩ := hrel
      cases gk with
      | zero => exact absurd HA.out (by simp [spec_PlanOk.l1])
      | succ k3 =>
       have H := HA.out
       clear HA
       simp only [spec_PlanOk.l1] at H
       by_cases c32 : x5_3 < (l0_1.length : Int)
       case neg =>
        rw [if_neg c32] at H
        have c32b0 : decide (x5_3 < (l0_1.length : Int)) = false := decide_eq_false c32
        clear c32
        have H' := zM H
        clear H
        obtain ⟨hcz69_0, hcz69_1, hfz69_0, hfz69_1⟩ := zc2 BK190.out
        go_wp2
        (try simp only [Act.put, zS1, zS2, zS3])
        go_loopg [7] k3 (fun kq v7 w' => ∃ (x7_4 : Int), v7 = .int .i64 x7_4 ∧ Aside0 (spec_PlanOk.l2 kq x3_3 x7_4 l0_0 l0_1 = some r) ∧ Aside0 (kq ≤ k3) ∧ Aside0 (Kd.R (Kd.int .i64) 3 w' w.heap.size (fun _ => True) v193 x3_3) ∧ Aside0 (w'.heap[gb190]? = some (.cells #[(.slice A0_0 l0_0.length c0_0), (.slice A0_1 l0_1.length c0_1)] 46 (0, 0))) ∧ Aside0 (Below w.heap.size w w'))
        case atStart => exact ⟨(0), (by first | rfl | (simp; done) | (simp [*]; done)), H', ⟨Nat.le_refl _⟩, ⟨by (with_reducible repeat (first | apply zRa | apply zRn | apply zRd)); first | exact HO_3.out | (subst_vars; exact HO_3.out)⟩, ⟨by (with_reducible repeat (first | apply zNn | apply zNd | apply zNa)); exact BK190.out⟩, ⟨by repeat (first | (with_reducible first | exact HB.out | apply zBa | apply zBn | apply zBd | refine zBs ?_ GE190.out) | exact HB.out)⟩⟩
        case round =>
         clear H'
         try clear c1
         try clear p1
         try clear q1
         try clear hx1
         try clear p2
         try clear q2
         try clear hx2
         try clear c3
         try clear c4
         try clear p4
         try clear q4
         try clear hx4
         try clear hf4
         try clear c5
         try clear c6
         try clear p6
         try clear c14
         try clear c14b0
         try clear c15
         try clear c17
         try clear c19
         try clear c19b0
         try clear c19b1
         try clear p19
         try clear q19
         try clear hx19
         try clear p20
         try clear q20
         try clear hx20
         try clear c32
         try clear c32b0
         try clear c33
         try clear c33b0
         try clear c35
         try clear c37
         try clear c38
         try clear c38b0
         try clear c39
         try clear c39b0
         try clear c40
         try clear c40b0
         try clear c40b1
         try clear c43
         try clear c46
         try clear c46b0
         try clear c47
         try clear c47b0
         try clear c48
         try clear p48
         try clear q48
         try clear hx48
         try clear hf48
         try clear c51
         try clear c60
         try clear c61
         try clear p64
         try clear c66
         try clear hcz24_0
         try clear hcz24_1
         try clear hcz28_0
         try clear hcz28_1
         try clear hcz31_0
         try clear hcz31_1
         try clear hcz41_0
         try clear hcz41_1
         try clear hcz44_0
         try clear hcz44_1
         try clear hcz45_0
         try clear hcz45_1
         try clear hcz49_0
         try clear hcz49_1
         try clear hcz52_0
         try clear hcz52_1
         try clear hcz54_0
         try clear hcz54_1
         try clear hcz55_0
         try clear hcz55_1
         try clear hcz59_0
         try clear hcz59_1
         try clear hcz62_0
         try clear hcz62_1
         try clear hcz63_0
         try clear hcz63_1
         try clear hcz64_0
         try clear hcz64_1
         try clear hcz67_0
         try clear hcz67_1
         try clear hcz68_0
         try clear hcz68_1
         try clear hcz69_0
         try clear hcz69_1
         try clear hfz24_0
         try clear hfz24_1
         try clear hfz28_0
         try clear hfz28_1
         try clear hfz31_0
         try clear hfz31_1
         try clear hfz41_0
         try clear hfz41_1
         try clear hfz44_0
         try clear hfz44_1
         try clear hfz45_0
         try clear hfz45_1
         try clear hfz49_0
         try clear hfz49_1
         try clear hfz52_0
         try clear hfz52_1
         try clear hfz54_0
         try clear hfz54_1
         try clear hfz55_0
         try clear hfz55_1
         try clear hfz59_0
         try clear hfz59_1
         try clear hfz62_0
         try clear hfz62_1
         try clear hfz63_0
         try clear hfz63_1
         try clear hfz64_0
         try clear hfz64_1
         try clear hfz67_0
         try clear hfz67_1
         try clear hfz68_0
         try clear hfz68_1
         try clear hfz69_0
         try clear hfz69_1
         try clear hx195_0
         try clear hx195_1
         try clear hx195_2
         try clear hx197_0
         try clear hx197_1
         try clear hx197_2
         try clear hx199_0
         try clear hx199_1
         try clear hx203_0
         try clear hx203_1
         try clear hx203_2
         try clear hx204_0
         try clear hx48_0
         try clear p1
         try clear p19
         try clear p195
         try clear p197
         try clear p199
         try clear p2
         try clear p203
         try clear p204
         try clear p48
         try clear p6
         try clear q1
         try clear q19
         try clear q195
         try clear q197
         try clear q199
         try clear q203
         try clear q204
         try clear q48
         obtain ⟨x7_4, rfl, HA, HK4, HO_3, BK190, HB⟩ := hrel
         cases gk with
         | zero => exact absurd HA.out (by simp [spec_PlanOk.l2])
         | succ k4 =>
          have H := HA.out
          clear HA
          simp only [spec_PlanOk.l2] at H
          by_cases c70 : x7_4 < (l0_0.length : Int)
          case neg =>
           rw [if_neg c70] at H
           have c70b0 : decide (x7_4 < (l0_0.length : Int)) = false := decide_eq_false c70
           clear c70
           obtain rfl := zI H
           obtain ⟨hcz81_0, hcz81_1, hfz81_0, hfz81_1⟩ := zc2 BK190.out
           go_wp2
           go_ret
           exact ⟨by first | rfl | (simp [errW_none, errW_some] <;> rfl) | (simp [*, errW_none, errW_some] <;> rfl), by repeat (first | (with_reducible first | exact HB.out | apply zBa | apply zBn | apply zBd | refine zBs ?_ GE190.out) | exact HB.out)⟩
          rw [if_pos c70] at H
          have c70b0 : decide (x7_4 < (l0_0.length : Int)) = true := zE c70
          clear c70
          by_cases c71 : 0 ≤ x7_4
          case neg =>
           rw [if_neg c71] at H
           exact absurd H (by simp)
          rw [if_pos c71] at H
          have c71b0 : decide (0 ≤ x7_4) = true := zE c71
          clear c71
          by_cases c72 : x7_4 < (x3_3.length : Int)
          case neg =>
           rw [if_neg c72] at H
           exact absurd H (by simp)
          rw [if_pos c72] at H
          have c72b0 : decide (x7_4 < (x3_3.length : Int)) = true := zE c72
          clear c72
          replace H := zO.mp H
          obtain ⟨t208, A730, H⟩ := H
          replace H : (if (rd x3_3 x7_4) = t208 then (spec_PlanOk.l2 k4 x3_3 (wrap64 (x7_4 + 1)) l0_0 l0_1) else (some false)) = some r := H
          have A73 := zM A730
          clear A730
          by_cases c74 : (rd x3_3 x7_4) = t208
          case neg =>
           rw [if_neg c74] at H
           have c74b0 : ((rd x3_3 x7_4) == t208) = false := beq_eq_false_iff_ne.mpr c74
           have c74b1 : ((rd x3_3 x7_4) != t208) = true := bne_iff_ne.mpr c74
           obtain rfl := zI H
           obtain ⟨hcz78_0, hcz78_1, hfz78_0, hfz78_1⟩ := zc2 BK190.out
           try go_wp2
           have n0_ := zM (zRd HO_3.out)
           have n1_ := zM (zNd BK190.out)
           have n2_ := zM (zBd HB.out)
           clear HO_3
           clear BK190
           clear HB
           have HO_3 := n0_
           have BK190 := n1_
           have HB := n2_
           clear n0_ n1_ n2_
           obtain ⟨Ao80, co80, eo80⟩ := Kd.R_slice HO_3.out
           (first | subst eo80 | (injection eo80 with f1_ f2_ f3_; have f4_ := f1_.symm; have f5_ := f3_.symm; clear f1_ f2_ f3_; subst f4_; subst f5_))
           have p206 : 0 ≤ (x7_4 : Int) := zT (by assumption)
           have q206 : x7_4 < (x3_3.length : Int) := zT (by assumption)
           obtain ⟨ad206, e206, hx206_0⟩ := Kd.at_int (Kd.R_reads' HO_3.out).2.2 x7_4 p206 q206
           cases e206
           replace p206 := eq_true p206
           replace q206 := eq_true q206
           have p207 : 0 ≤ (x7_4 : Int) := zT (by assumption)
           have q207 : x7_4 < (l0_0.length : Int) := zT (by assumption)
           obtain ⟨ad207, e207, hx207_0, hx207_1, hx207_2⟩ := at_T94 HR0_0.out x7_4 p207 q207
           have hw207_2 := hx207_2
           have hw207_1 := hx207_1
           have hw207_0 := hx207_0
           cases e207
           replace hx207_0 := (HB.out.cell (zW w _ hx207_0)).trans hx207_0
           replace hx207_1 := (HB.out.cell (zW w _ hx207_1)).trans hx207_1
           replace hx207_2 := (HB.out.cell (zW w _ hx207_2)).trans hx207_2
           replace p207 := eq_true p207
           replace q207 := eq_true q207
           refine start_ (n := 12) (S := fun w' => w'.cell? ⟨gb190, 0, none⟩ = some (.slice (some ad207) l0_0.length c0_0) ∧ w'.cell? ⟨gb190, 1, none⟩ = some (.slice A0_1 l0_1.length c0_1) ∧ w'.cell? (ad206.add (x7_4).toNat) = some (.int .i64 (rd x3_3 x7_4)) ∧ w'.cell? (ad207.add ((x7_4).toNat * 3)) = some (.string ((rd_T94 l0_0 x7_4).f0)) ∧ w'.cell? ⟨(ad207.add ((x7_4).toNat * 3)).block, (ad207.add ((x7_4).toNat * 3)).off + 1, none⟩ = some (.int .i64 ((rd_T94 l0_0 x7_4).f1)) ∧ w'.cell? ⟨(ad207.add ((x7_4).toNat * 3)).block, (ad207.add ((x7_4).toNat * 3)).off + 2, none⟩ = some (.int .i64 ((rd_T94 l0_0 x7_4).f2))) (ds := []) #[zf,zf,zf,zf,zf,zf,zf,zf,zf,zf,zf,zf] (by kernel_rfl) rfl rfl ⟨(blk_cell BK190.out 0).trans rfl, (blk_cell BK190.out 1).trans rfl, hx206_0, ((HB.out.cell (zW w _ hw207_0)).trans hw207_0), ((HB.out.cell (zW w _ hw207_1)).trans hw207_1), ((HB.out.cell (zW w _ hw207_2)).trans hw207_2)⟩ (fun hHeld => ?_); refine with_tabW spec_PlanOk.tab19 spec_PlanOk.bits19 (fun HT_ HW_ => ?_)
           generalize wr.drew = w79 at HO_3 BK190 HB hx206_0 hx207_0 hx207_1 hx207_2 hHeld ⊢
           refine pure_ (i := 0) (N := some 103) (v := ?_) (a' := ?_) #[zt,zf,zf,zf,zf,zf,zf,zf,zf,zf,zf,zf] rfl rfl (any_of HT_.out (by kernel_rfl)) (fun _ _ _ h => h) (Or.inl ⟨by rfl, ?_⟩) ?_ ?_
           rotate_left
           ·intro w'
            go_simp
            with_reducible rfl
           rotate_left
           ·simp only [Act.put, zS1, zS2, zS3, i64_w, i32_w]
            rfl
           refine pure_ (i := 1) (N := some 104) (v := ?_) (a' := ?_) #[zt,zt,zf,zf,zf,zf,zf,zf,zf,zf,zf,zf] rfl rfl (any_of HT_.out (by kernel_rfl)) (fun _ _ _ h => h) (Or.inl ⟨by rfl, ?_⟩) ?_ ?_
           rotate_left
           ·intro w'
            go_simp
            with_reducible rfl
           rotate_left
           ·simp only [Act.put, zS1, zS2, zS3, i64_w, i32_w]
            rfl
           refine pure_ (i := 2) (N := some 105) (v := ?_) (a' := ?_) #[zt,zt,zt,zf,zf,zf,zf,zf,zf,zf,zf,zf] rfl rfl (any_of HT_.out (by kernel_rfl)) (fun _ _ _ h => h) (Or.inl ⟨by rfl, ?_⟩) ?_ ?_
           rotate_left
           ·intro w'
            go_simp
            with_reducible rfl
           rotate_left
           ·simp only [Act.put, zS1, zS2, zS3, i64_w, i32_w]
            rfl
           refine pure_ (i := 4) (N := some 107) (v := ?_) (a' := ?_) #[zt,zt,zt,zf,zt,zf,zf,zf,zf,zf,zf,zf] rfl rfl (any_of HT_.out (by kernel_rfl)) (fun _ _ _ h => h) (Or.inl ⟨by rfl, ?_⟩) ?_ ?_
           rotate_left
           ·intro w'
            go_simp
            with_reducible rfl
           rotate_left
           ·simp only [Act.put, zS1, zS2, zS3, i64_w, i32_w]
            rfl
           refine pure_ (i := 6) (N := some 109) (v := ?_) (a' := ?_) #[zt,zt,zt,zf,zt,zf,zt,zf,zf,zf,zf,zf] rfl rfl (any_of HT_.out (by kernel_rfl)) (fun _ _ _ h => h) (Or.inl ⟨by rfl, ?_⟩) ?_ ?_
           rotate_left
           ·intro w'
            go_simp
            with_reducible rfl
           rotate_left
           ·simp only [Act.put, zS1, zS2, zS3, i64_w, i32_w]
            rfl
           refine take_ (i := 3) (N := some 106) (v := ?_) (a' := ?_) #[zt,zt,zt,zt,zt,zf,zt,zf,zf,zf,zf,zf] rfl rfl (take_ofW HT_.out HW_.out (by kernel_rfl)) (fun _ _ _ h => h) (Or.inl ⟨by rfl, ?_⟩) hHeld ?_ ?_
           rotate_left
           ·rintro w' ⟨s0, s1, s2, s3, s4, s5⟩
            go_simp
            with_reducible rfl
           rotate_left
           ·simp only [Act.put, zS1, zS2, zS3, i64_w, i32_w]
            rfl
           refine take_ (i := 5) (N := some 108) (v := ?_) (a' := ?_) #[zt,zt,zt,zt,zt,zt,zt,zf,zf,zf,zf,zf] rfl rfl (take_ofW HT_.out HW_.out (by kernel_rfl)) (fun _ _ _ h => h) (Or.inl ⟨by rfl, ?_⟩) hHeld ?_ ?_
           rotate_left
           ·rintro w' ⟨s0, s1, s2, s3, s4, s5⟩
            go_simp
            with_reducible rfl
           rotate_left
           ·simp only [Act.put, zS1, zS2, zS3, i64_w, i32_w]
            rfl
           refine pure_ (i := 7) (N := some 110) (v := ?_) (a' := ?_) #[zt,zt,zt,zt,zt,zt,zt,zt,zf,zf,zf,zf] rfl rfl (any_of HT_.out (by kernel_rfl)) (fun _ _ _ h => h) (Or.inl ⟨by rfl, ?_⟩) ?_ ?_
           rotate_left
           ·intro w'
            go_simp
            with_reducible rfl
           rotate_left
           ·simp only [Act.put, zS1, zS2, zS3, i64_w, i32_w]
            rfl
           refine pure_ (i := 8) (N := some 111) (v := ?_) (a' := ?_) #[zt,zt,zt,zt,zt,zt,zt,zt,zt,zf,zf,zf] rfl rfl (any_of HT_.out (by kernel_rfl)) (fun _ _ _ h => h) (Or.inl ⟨by rfl, ?_⟩) ?_ ?_
           rotate_left
           ·intro w'
            go_simp
            with_reducible rfl
           rotate_left
           ·simp only [Act.put, zS1, zS2, zS3, i64_w, i32_w]
            rfl
           refine take_ (i := 9) (N := some 112) (v := ?_) (a' := ?_) #[zt,zt,zt,zt,zt,zt,zt,zt,zt,zt,zf,zf] rfl rfl (take_ofW HT_.out HW_.out (by kernel_rfl)) (fun _ _ _ h => h) (Or.inl ⟨by rfl, ?_⟩) hHeld ?_ ?_
           rotate_left
           ·rintro w' ⟨s0, s1, s2, s3, s4, s5⟩
            go_simp
            with_reducible rfl
           rotate_left
           ·simp only [Act.put, zS1, zS2, zS3, i64_w, i32_w]
            rfl
           refine one_ (i := 10) (N := some 113) #[zt,zt,zt,zt,zt,zt,zt,zt,zt,zt,zt,zf] rfl rfl (one_of HT_.out (by kernel_rfl)) (by decide) (fun K hK => ?_)
           refine goes_ Try.func62 (by kernel_rfl) rfl #[.int .i64 ((rd_T94 l0_0 x7_4).f1)] (by rfl) rfl rfl (by (try simp only [List.map_toArray, List.map_cons, List.map_nil]); first | done | rfl | (simp only [List.length_drop, List.length_take]; rfl)) ?_
           with_reducible refine (spec_l20Doors.calls ((rd_T94 l0_0 x7_4).f1) t208 _ A73.out).mono ?_
           rintro e w' ⟨rfl, ⟨nd, rfl⟩⟩
           refine ⟨_, rfl, ?_⟩
           refine hK.out _ _ ⟨(blk_cell BK190.out 0).trans rfl, (blk_cell BK190.out 1).trans rfl, hHeld.2.2.1, ((HB.out.cell (zW w _ hw207_0)).trans hw207_0), ((HB.out.cell (zW w _ hw207_1)).trans hw207_1), ((HB.out.cell (zW w _ hw207_2)).trans hw207_2)⟩ (fun hHeld => ?_)
           clear hK K
           refine norm_ (a' := ?_) ?_ ?_
           rotate_left
           ·show Act.put _ (some 113) _ = _
            simp only [Act.put, zS1, zS2, zS3, i64_w, i32_w]
            rfl
           refine pure_ (i := 11) (N := some 114) (v := ?_) (a' := ?_) #[zt,zt,zt,zt,zt,zt,zt,zt,zt,zt,zt,zt] rfl rfl (any_of HT_.out (by kernel_rfl)) (fun _ _ _ h => h) (Or.inl ⟨by rfl, ?_⟩) ?_ ?_
           rotate_left
           ·intro w'
            go_simp
            with_reducible rfl
           rotate_left
           ·simp only [Act.put, zS1, zS2, zS3, i64_w, i32_w]
            rfl
           refine done_ (done_of HT_.out (by kernel_rfl)) ?_
           try go_wp2
           go_ret
           exact ⟨by first | rfl | (simp [errW_none, errW_some] <;> rfl) | (simp [*, errW_none, errW_some] <;> rfl), by repeat (first | (with_reducible first | exact HB.out | apply zBa | apply zBn | apply zBd | refine zBs ?_ GE190.out) | exact HB.out)⟩
          rw [if_pos c74] at H
          have c74b0 : ((rd x3_3 x7_4) == t208) = true := beq_iff_eq.mpr c74
          have c74b1 : ((rd x3_3 x7_4) != t208) = false := bne_eq_false_iff_eq.mpr c74
          clear c74
          have H' := zM H
          clear H
          obtain ⟨hcz75_0, hcz75_1, hfz75_0, hfz75_1⟩ := zc2 BK190.out
          try go_wp2
          have n0_ := zM (zRd HO_3.out)
          have n1_ := zM (zNd BK190.out)
          have n2_ := zM (zBd HB.out)
          clear HO_3
          clear BK190
          clear HB
          have HO_3 := n0_
          have BK190 := n1_
          have HB := n2_
          clear n0_ n1_ n2_
          obtain ⟨Ao77, co77, eo77⟩ := Kd.R_slice HO_3.out
          (first | subst eo77 | (injection eo77 with f1_ f2_ f3_; have f4_ := f1_.symm; have f5_ := f3_.symm; clear f1_ f2_ f3_; subst f4_; subst f5_))
          have p206 : 0 ≤ (x7_4 : Int) := zT (by assumption)
          have q206 : x7_4 < (x3_3.length : Int) := zT (by assumption)
          obtain ⟨ad206, e206, hx206_0⟩ := Kd.at_int (Kd.R_reads' HO_3.out).2.2 x7_4 p206 q206
          cases e206
          replace p206 := eq_true p206
          replace q206 := eq_true q206
          have p207 : 0 ≤ (x7_4 : Int) := zT (by assumption)
          have q207 : x7_4 < (l0_0.length : Int) := zT (by assumption)
          obtain ⟨ad207, e207, hx207_0, hx207_1, hx207_2⟩ := at_T94 HR0_0.out x7_4 p207 q207
          have hw207_2 := hx207_2
          have hw207_1 := hx207_1
          have hw207_0 := hx207_0
          cases e207
          replace hx207_0 := (HB.out.cell (zW w _ hx207_0)).trans hx207_0
          replace hx207_1 := (HB.out.cell (zW w _ hx207_1)).trans hx207_1
          replace hx207_2 := (HB.out.cell (zW w _ hx207_2)).trans hx207_2
          replace p207 := eq_true p207
          replace q207 := eq_true q207
          refine start_ (n := 12) (S := fun w' => w'.cell? ⟨gb190, 0, none⟩ = some (.slice (some ad207) l0_0.length c0_0) ∧ w'.cell? ⟨gb190, 1, none⟩ = some (.slice A0_1 l0_1.length c0_1) ∧ w'.cell? (ad206.add (x7_4).toNat) = some (.int .i64 (rd x3_3 x7_4)) ∧ w'.cell? (ad207.add ((x7_4).toNat * 3)) = some (.string ((rd_T94 l0_0 x7_4).f0)) ∧ w'.cell? ⟨(ad207.add ((x7_4).toNat * 3)).block, (ad207.add ((x7_4).toNat * 3)).off + 1, none⟩ = some (.int .i64 ((rd_T94 l0_0 x7_4).f1)) ∧ w'.cell? ⟨(ad207.add ((x7_4).toNat * 3)).block, (ad207.add ((x7_4).toNat * 3)).off + 2, none⟩ = some (.int .i64 ((rd_T94 l0_0 x7_4).f2))) (ds := []) #[zf,zf,zf,zf,zf,zf,zf,zf,zf,zf,zf,zf] (by kernel_rfl) rfl rfl ⟨(blk_cell BK190.out 0).trans rfl, (blk_cell BK190.out 1).trans rfl, hx206_0, ((HB.out.cell (zW w _ hw207_0)).trans hw207_0), ((HB.out.cell (zW w _ hw207_1)).trans hw207_1), ((HB.out.cell (zW w _ hw207_2)).trans hw207_2)⟩ (fun hHeld => ?_); refine with_tabW spec_PlanOk.tab19 spec_PlanOk.bits19 (fun HT_ HW_ => ?_)
          generalize wr.drew = w76 at HO_3 BK190 HB hx206_0 hx207_0 hx207_1 hx207_2 hHeld ⊢
          refine pure_ (i := 0) (N := some 103) (v := ?_) (a' := ?_) #[zt,zf,zf,zf,zf,zf,zf,zf,zf,zf,zf,zf] rfl rfl (any_of HT_.out (by kernel_rfl)) (fun _ _ _ h => h) (Or.inl ⟨by rfl, ?_⟩) ?_ ?_
          rotate_left
          ·intro w'
           go_simp
           with_reducible rfl
          rotate_left
          ·simp only [Act.put, zS1, zS2, zS3, i64_w, i32_w]
           rfl
          refine pure_ (i := 1) (N := some 104) (v := ?_) (a' := ?_) #[zt,zt,zf,zf,zf,zf,zf,zf,zf,zf,zf,zf] rfl rfl (any_of HT_.out (by kernel_rfl)) (fun _ _ _ h => h) (Or.inl ⟨by rfl, ?_⟩) ?_ ?_
          rotate_left
          ·intro w'
           go_simp
           with_reducible rfl
          rotate_left
          ·simp only [Act.put, zS1, zS2, zS3, i64_w, i32_w]
           rfl
          refine pure_ (i := 2) (N := some 105) (v := ?_) (a' := ?_) #[zt,zt,zt,zf,zf,zf,zf,zf,zf,zf,zf,zf] rfl rfl (any_of HT_.out (by kernel_rfl)) (fun _ _ _ h => h) (Or.inl ⟨by rfl, ?_⟩) ?_ ?_
          rotate_left
          ·intro w'
           go_simp
           with_reducible rfl
          rotate_left
          ·simp only [Act.put, zS1, zS2, zS3, i64_w, i32_w]
           rfl
          refine pure_ (i := 4) (N := some 107) (v := ?_) (a' := ?_) #[zt,zt,zt,zf,zt,zf,zf,zf,zf,zf,zf,zf] rfl rfl (any_of HT_.out (by kernel_rfl)) (fun _ _ _ h => h) (Or.inl ⟨by rfl, ?_⟩) ?_ ?_
          rotate_left
          ·intro w'
           go_simp
           with_reducible rfl
          rotate_left
          ·simp only [Act.put, zS1, zS2, zS3, i64_w, i32_w]
           rfl
          refine pure_ (i := 6) (N := some 109) (v := ?_) (a' := ?_) #[zt,zt,zt,zf,zt,zf,zt,zf,zf,zf,zf,zf] rfl rfl (any_of HT_.out (by kernel_rfl)) (fun _ _ _ h => h) (Or.inl ⟨by rfl, ?_⟩) ?_ ?_
          rotate_left
          ·intro w'
           go_simp
           with_reducible rfl
          rotate_left
          ·simp only [Act.put, zS1, zS2, zS3, i64_w, i32_w]
           rfl
          refine take_ (i := 3) (N := some 106) (v := ?_) (a' := ?_) #[zt,zt,zt,zt,zt,zf,zt,zf,zf,zf,zf,zf] rfl rfl (take_ofW HT_.out HW_.out (by kernel_rfl)) (fun _ _ _ h => h) (Or.inl ⟨by rfl, ?_⟩) hHeld ?_ ?_
          rotate_left
          ·rintro w' ⟨s0, s1, s2, s3, s4, s5⟩
           go_simp
           with_reducible rfl
          rotate_left
          ·simp only [Act.put, zS1, zS2, zS3, i64_w, i32_w]
           rfl
          refine take_ (i := 5) (N := some 108) (v := ?_) (a' := ?_) #[zt,zt,zt,zt,zt,zt,zt,zf,zf,zf,zf,zf] rfl rfl (take_ofW HT_.out HW_.out (by kernel_rfl)) (fun _ _ _ h => h) (Or.inl ⟨by rfl, ?_⟩) hHeld ?_ ?_
          rotate_left
          ·rintro w' ⟨s0, s1, s2, s3, s4, s5⟩
           go_simp
           with_reducible rfl
          rotate_left
          ·simp only [Act.put, zS1, zS2, zS3, i64_w, i32_w]
           rfl
          refine pure_ (i := 7) (N := some 110) (v := ?_) (a' := ?_) #[zt,zt,zt,zt,zt,zt,zt,zt,zf,zf,zf,zf] rfl rfl (any_of HT_.out (by kernel_rfl)) (fun _ _ _ h => h) (Or.inl ⟨by rfl, ?_⟩) ?_ ?_
          rotate_left
          ·intro w'
           go_simp
           with_reducible rfl
          rotate_left
          ·simp only [Act.put, zS1, zS2, zS3, i64_w, i32_w]
           rfl
          refine pure_ (i := 8) (N := some 111) (v := ?_) (a' := ?_) #[zt,zt,zt,zt,zt,zt,zt,zt,zt,zf,zf,zf] rfl rfl (any_of HT_.out (by kernel_rfl)) (fun _ _ _ h => h) (Or.inl ⟨by rfl, ?_⟩) ?_ ?_
          rotate_left
          ·intro w'
           go_simp
           with_reducible rfl
          rotate_left
          ·simp only [Act.put, zS1, zS2, zS3, i64_w, i32_w]
           rfl
          refine take_ (i := 9) (N := some 112) (v := ?_) (a' := ?_) #[zt,zt,zt,zt,zt,zt,zt,zt,zt,zt,zf,zf] rfl rfl (take_ofW HT_.out HW_.out (by kernel_rfl)) (fun _ _ _ h => h) (Or.inl ⟨by rfl, ?_⟩) hHeld ?_ ?_
          rotate_left
          ·rintro w' ⟨s0, s1, s2, s3, s4, s5⟩
           go_simp
           with_reducible rfl
          rotate_left
          ·simp only [Act.put, zS1, zS2, zS3, i64_w, i32_w]
           rfl
          refine one_ (i := 10) (N := some 113) #[zt,zt,zt,zt,zt,zt,zt,zt,zt,zt,zt,zf] rfl rfl (one_of HT_.out (by kernel_rfl)) (by decide) (fun K hK => ?_)
          refine goes_ Try.func62 (by kernel_rfl) rfl #[.int .i64 ((rd_T94 l0_0 x7_4).f1)] (by rfl) rfl rfl (by (try simp only [List.map_toArray, List.map_cons, List.map_nil]); first | done | rfl | (simp only [List.length_drop, List.length_take]; rfl)) ?_
          with_reducible refine (spec_l20Doors.calls ((rd_T94 l0_0 x7_4).f1) t208 _ A73.out).mono ?_
          rintro e w' ⟨rfl, ⟨nd, rfl⟩⟩
          refine ⟨_, rfl, ?_⟩
          refine hK.out _ _ ⟨(blk_cell BK190.out 0).trans rfl, (blk_cell BK190.out 1).trans rfl, hHeld.2.2.1, ((HB.out.cell (zW w _ hw207_0)).trans hw207_0), ((HB.out.cell (zW w _ hw207_1)).trans hw207_1), ((HB.out.cell (zW w _ hw207_2)).trans hw207_2)⟩ (fun hHeld => ?_)
          clear hK K
          refine norm_ (a' := ?_) ?_ ?_
          rotate_left
          ·show Act.put _ (some 113) _ = _
           simp only [Act.put, zS1, zS2, zS3, i64_w, i32_w]
           rfl
          refine pure_ (i := 11) (N := some 114) (v := ?_) (a' := ?_) #[zt,zt,zt,zt,zt,zt,zt,zt,zt,zt,zt,zt] rfl rfl (any_of HT_.out (by kernel_rfl)) (fun _ _ _ h => h) (Or.inl ⟨by rfl, ?_⟩) ?_ ?_
          rotate_left
          ·intro w'
           go_simp
           with_reducible rfl
          rotate_left
          ·simp only [Act.put, zS1, zS2, zS3, i64_w, i32_w]
           rfl
          refine done_ (done_of HT_.out (by kernel_rfl)) ?_
          try go_wp2
          go_roundg k4
          case measure => have := HJ1.out; have := HK2.out; have := HK3.out; have := HK4.out; omega
          case rel => exact ⟨(wrap64 (x7_4 + 1)), (by first | rfl | (simp; done) | (simp [*]; done)), H', ⟨by have := HJ1.out; have := HK2.out; have := HK3.out; have := HK4.out; omega⟩, ⟨by (with_reducible repeat (first | apply zRa | apply zRn | apply zRd)); first | exact HO_3.out | (subst_vars; exact HO_3.out)⟩, ⟨by (with_reducible repeat (first | apply zNn | apply zNd | apply zNa)); exact BK190.out⟩, ⟨by repeat (first | (with_reducible first | exact HB.out | apply zBa | apply zBn | apply zBd | refine zBs ?_ GE190.out) | exact HB.out)⟩⟩
       rw [if_pos c32] at H
       have c32b0 : decide (x5_3 < (l0_1.length : Int)) = true := zE c32
       clear c32
       by_cases c33 : 0 ≤ x5_3
       case neg =>
        rw [if_neg c33] at H
        exact absurd H (by simp)
       rw [if_pos c33] at H
       have c33b0 : decide (0 ≤ x5_3) = true := zE c33
       clear c33
       replace H := zO.mp H
       obtain ⟨t201, A340, H⟩ := H
       replace H : (if t201 = true then ((spec_l1In.f ((rd_T97 l0_1 x5_3).f1) 0 (wrap64 ((l0_0.length : Int) - 1))).bind fun t202 => (if t202 = true then (if 0 ≤ ((rd_T97 l0_1 x5_3).f0) then (if ((rd_T97 l0_1 x5_3).f0) < (l0_0.length : Int) then (if ((rd_T94 l0_0 ((rd_T97 l0_1 x5_3).f0)).f1) = 2 then (some false) else (if 0 ≤ ((rd_T97 l0_1 x5_3).f1) then (if ((rd_T97 l0_1 x5_3).f1) < (x3_3.length : Int) then (spec_PlanOk.l1 k3 (x3_3.set (((rd_T97 l0_1 x5_3).f1) : Int).toNat (wrap64 ((rd x3_3 ((rd_T97 l0_1 x5_3).f1)) + 1))) (wrap64 (x5_3 + 1)) l0_0 l0_1) else (none)) else (none))) else (none)) else (none)) else (some false))) else (some false)) = some r := H
       have A34 := zM A340
       clear A340
       by_cases c35 : t201 = true
       case neg =>
        replace c35 := Bool.eq_false_iff.mpr c35
        subst c35
        have H1 : (some false) = some r := by rw [if_neg (show ¬ (false = true) by decide)] at H; exact H
        clear H
        have H := H1
        clear H1
        obtain rfl := zI H
        obtain ⟨hcz64_0, hcz64_1, hfz64_0, hfz64_1⟩ := zc2 BK190.out
        have p199 : 0 ≤ (x5_3 : Int) := zT (by assumption)
        have q199 : x5_3 < (l0_1.length : Int) := zT (by assumption)
        obtain ⟨ad199, e199, hx199_0, hx199_1⟩ := at_T97 HR0_1.out x5_3 p199 q199
        cases e199
        replace hx199_0 := (HB.out.cell (zW w _ hx199_0)).trans hx199_0
        replace hx199_1 := (HB.out.cell (zW w _ hx199_1)).trans hx199_1
        replace p199 := eq_true p199
        replace q199 := eq_true q199
        go_wp2_with (first | ((with_reducible refine gate_dst (N := 6) rfl ?_); (try (refine gate_guard (by rfl) ?_; dsimp only)); refine box_event ?hg (N := 6) ?hd (cs := #[.int .i64 0, .int .i64 0]) (t := 97) ?hr ?_; (case hd => rfl); (case hg => rfl); (case hr => first | (go_simp; done) | (go_simp; rfl)); intro gb200 hg w65 hbox hb; have n0_ := zM (Kd.R_below (by (with_reducible repeat (first | apply zRa | apply zRn | apply zRd)); first | exact HO_3.out | (subst_vars; exact HO_3.out)) hb); have n1_ := zM (zNb (g := gb190) (o := .cells #[.slice A0_0 l0_0.length c0_0, .slice (some ad199) l0_1.length c0_1] 46 (0, 0)) (by (with_reducible repeat (first | apply zNn | apply zNd | apply zNa)); exact BK190.out) hb); have n2_ := zM (below_step (by repeat (first | (with_reducible first | exact HB.out | apply zBa | apply zBn | apply zBd | refine zBs ?_ GE190.out) | exact HB.out)) hb); have n3_ := zM (hbox); have n4_ := zM ((by rw [hg]; exact (below_size (by repeat (first | (with_reducible first | exact HB.out | apply zBa | apply zBn | apply zBd | refine zBs ?_ GE190.out) | exact HB.out))) : w.heap.size ≤ gb200)); have n5_ := zM n4_.out; have n6_ := zM ((by rw [hg]; exact Nat.ne_of_lt (by simpa using blk_lt BK190.out) : gb190 ≠ gb200)); have n7_ := zM ((by rw [hg]; exact Nat.ne_of_gt (by simpa using blk_lt BK190.out) : gb200 ≠ gb190)); clear HO_3; clear BK190; clear HB; have HO_3 := n0_; have BK190 := n1_; have HB := n2_; have BK200 := n3_; have GW200 := n4_; have GE200 := n5_; have NB190_200 := n6_; have NB200_190 := n7_; clear n0_ n1_ n2_ n3_ n4_ n5_ n6_ n7_; clear hb hbox hg; have hnb66 := NB200_190.out; have hnc66 := NB190_200.out; obtain ⟨hcz67_0, hcz67_1, hfz67_0, hfz67_1⟩ := zc2 BK200.out; obtain ⟨hcz68_0, hcz68_1, hfz68_0, hfz68_1⟩ := zc2 BK190.out) | ((with_reducible refine gate_callee (f := 48) rfl ?_); refine goesL_ (some 67) rfl rfl Try.func48 (by kernel_rfl) rfl #[.int .i64 ((rd_T97 l0_1 x5_3).f0), .int .i64 0, .int .i64 (wrap64 ((l0_0.length : Int) - 1))] rfl (by (try simp only [List.map_toArray, List.map_cons, List.map_nil]); first | done | rfl | (simp only [List.length_drop, List.length_take]; rfl)) ?_; (with_reducible refine (spec_l1In.calls ((rd_T97 l0_1 x5_3).f0) 0 (wrap64 ((l0_0.length : Int) - 1)) false _ A34.out).mono ?_); rintro e w' ⟨rfl, ⟨nd, rfl⟩⟩; refine ⟨_, rfl, ?_⟩))
        go_ret
        exact ⟨by first | rfl | (simp [errW_none, errW_some] <;> rfl) | (simp [*, errW_none, errW_some] <;> rfl), by repeat (first | (with_reducible first | exact HB.out | apply zBa | apply zBn | apply zBd | refine zBs ?_ GE190.out | refine zBs ?_ GE200.out) | exact HB.out)⟩
       subst c35
       have H1 : ((spec_l1In.f ((rd_T97 l0_1 x5_3).f1) 0 (wrap64 ((l0_0.length : Int) - 1))).bind fun t202 => (if t202 = true then (if 0 ≤ ((rd_T97 l0_1 x5_3).f0) then (if ((rd_T97 l0_1 x5_3).f0) < (l0_0.length : Int) then (if ((rd_T94 l0_0 ((rd_T97 l0_1 x5_3).f0)).f1) = 2 then (some false) else (if 0 ≤ ((rd_T97 l0_1 x5_3).f1) then (if ((rd_T97 l0_1 x5_3).f1) < (x3_3.length : Int) then (spec_PlanOk.l1 k3 (x3_3.set (((rd_T97 l0_1 x5_3).f1) : Int).toNat (wrap64 ((rd x3_3 ((rd_T97 l0_1 x5_3).f1)) + 1))) (wrap64 (x5_3 + 1)) l0_0 l0_1) else (none)) else (none))) else (none)) else (none)) else (some false))) = some r := by rw [if_pos rfl] at H; exact H
       clear H
       have H := H1
       clear H1
       replace H := zO.mp H
       obtain ⟨t202, A360, H⟩ := H
       replace H : (if t202 = true then (if 0 ≤ ((rd_T97 l0_1 x5_3).f0) then (if ((rd_T97 l0_1 x5_3).f0) < (l0_0.length : Int) then (if ((rd_T94 l0_0 ((rd_T97 l0_1 x5_3).f0)).f1) = 2 then (some false) else (if 0 ≤ ((rd_T97 l0_1 x5_3).f1) then (if ((rd_T97 l0_1 x5_3).f1) < (x3_3.length : Int) then (spec_PlanOk.l1 k3 (x3_3.set (((rd_T97 l0_1 x5_3).f1) : Int).toNat (wrap64 ((rd x3_3 ((rd_T97 l0_1 x5_3).f1)) + 1))) (wrap64 (x5_3 + 1)) l0_0 l0_1) else (none)) else (none))) else (none)) else (none)) else (some false)) = some r := H
       have A36 := zM A360
       clear A360
       by_cases c37 : t202 = true
       case neg =>
        replace c37 := Bool.eq_false_iff.mpr c37
        subst c37
        have H1 : (some false) = some r := by rw [if_neg (show ¬ (false = true) by decide)] at H; exact H
        clear H
        have H := H1
        clear H1
        obtain rfl := zI H
        obtain ⟨hcz59_0, hcz59_1, hfz59_0, hfz59_1⟩ := zc2 BK190.out
        have p199 : 0 ≤ (x5_3 : Int) := zT (by assumption)
        have q199 : x5_3 < (l0_1.length : Int) := zT (by assumption)
        obtain ⟨ad199, e199, hx199_0, hx199_1⟩ := at_T97 HR0_1.out x5_3 p199 q199
        cases e199
        replace hx199_0 := (HB.out.cell (zW w _ hx199_0)).trans hx199_0
        replace hx199_1 := (HB.out.cell (zW w _ hx199_1)).trans hx199_1
        replace p199 := eq_true p199
        replace q199 := eq_true q199
        go_wp2_with (first | ((with_reducible refine gate_dst (N := 6) rfl ?_); (try (refine gate_guard (by rfl) ?_; dsimp only)); refine box_event ?hg (N := 6) ?hd (cs := #[.int .i64 0, .int .i64 0]) (t := 97) ?hr ?_; (case hd => rfl); (case hg => rfl); (case hr => first | (go_simp; done) | (go_simp; rfl)); intro gb200 hg w60 hbox hb; have n0_ := zM (Kd.R_below (by (with_reducible repeat (first | apply zRa | apply zRn | apply zRd)); first | exact HO_3.out | (subst_vars; exact HO_3.out)) hb); have n1_ := zM (zNb (g := gb190) (o := .cells #[.slice A0_0 l0_0.length c0_0, .slice (some ad199) l0_1.length c0_1] 46 (0, 0)) (by (with_reducible repeat (first | apply zNn | apply zNd | apply zNa)); exact BK190.out) hb); have n2_ := zM (below_step (by repeat (first | (with_reducible first | exact HB.out | apply zBa | apply zBn | apply zBd | refine zBs ?_ GE190.out) | exact HB.out)) hb); have n3_ := zM (hbox); have n4_ := zM ((by rw [hg]; exact (below_size (by repeat (first | (with_reducible first | exact HB.out | apply zBa | apply zBn | apply zBd | refine zBs ?_ GE190.out) | exact HB.out))) : w.heap.size ≤ gb200)); have n5_ := zM n4_.out; have n6_ := zM ((by rw [hg]; exact Nat.ne_of_lt (by simpa using blk_lt BK190.out) : gb190 ≠ gb200)); have n7_ := zM ((by rw [hg]; exact Nat.ne_of_gt (by simpa using blk_lt BK190.out) : gb200 ≠ gb190)); clear HO_3; clear BK190; clear HB; have HO_3 := n0_; have BK190 := n1_; have HB := n2_; have BK200 := n3_; have GW200 := n4_; have GE200 := n5_; have NB190_200 := n6_; have NB200_190 := n7_; clear n0_ n1_ n2_ n3_ n4_ n5_ n6_ n7_; clear hb hbox hg; have hnb61 := NB200_190.out; have hnc61 := NB190_200.out; obtain ⟨hcz62_0, hcz62_1, hfz62_0, hfz62_1⟩ := zc2 BK200.out; obtain ⟨hcz63_0, hcz63_1, hfz63_0, hfz63_1⟩ := zc2 BK190.out) | ((with_reducible refine gate_callee (f := 48) rfl ?_); refine goesL_ (some 67) rfl rfl Try.func48 (by kernel_rfl) rfl #[.int .i64 ((rd_T97 l0_1 x5_3).f0), .int .i64 0, .int .i64 (wrap64 ((l0_0.length : Int) - 1))] rfl (by (try simp only [List.map_toArray, List.map_cons, List.map_nil]); first | done | rfl | (simp only [List.length_drop, List.length_take]; rfl)) ?_; (with_reducible refine (spec_l1In.calls ((rd_T97 l0_1 x5_3).f0) 0 (wrap64 ((l0_0.length : Int) - 1)) true _ A34.out).mono ?_); rintro e w' ⟨rfl, ⟨nd, rfl⟩⟩; refine ⟨_, rfl, ?_⟩) | (go_at_call 48; (with_reducible refine (spec_l1In.calls ((rd_T97 l0_1 x5_3).f1) 0 (wrap64 ((l0_0.length : Int) - 1)) false _ A36.out).mono ?_); rintro e w' ⟨rfl, ⟨nd, rfl⟩⟩))
        go_ret
        exact ⟨by first | rfl | (simp [errW_none, errW_some] <;> rfl) | (simp [*, errW_none, errW_some] <;> rfl), by repeat (first | (with_reducible first | exact HB.out | apply zBa | apply zBn | apply zBd | refine zBs ?_ GE190.out | refine zBs ?_ GE200.out) | exact HB.out)⟩
       subst c37
       have H1 : (if 0 ≤ ((rd_T97 l0_1 x5_3).f0) then (if ((rd_T97 l0_1 x5_3).f0) < (l0_0.length : Int) then (if ((rd_T94 l0_0 ((rd_T97 l0_1 x5_3).f0)).f1) = 2 then (some false) else (if 0 ≤ ((rd_T97 l0_1 x5_3).f1) then (if ((rd_T97 l0_1 x5_3).f1) < (x3_3.length : Int) then (spec_PlanOk.l1 k3 (x3_3.set (((rd_T97 l0_1 x5_3).f1) : Int).toNat (wrap64 ((rd x3_3 ((rd_T97 l0_1 x5_3).f1)) + 1))) (wrap64 (x5_3 + 1)) l0_0 l0_1) else (none)) else (none))) else (none)) else (none)) = some r := by rw [if_pos rfl] at H; exact H
       clear H
       have H := H1
       clear H1
       by_cases c38 : 0 ≤ ((rd_T97 l0_1 x5_3).f0)
       case neg =>
        rw [if_neg c38] at H
        exact absurd H (by simp)
       rw [if_pos c38] at H
       have c38b0 : decide (0 ≤ ((rd_T97 l0_1 x5_3).f0)) = true := zE c38
       clear c38
       by_cases c39 : ((rd_T97 l0_1 x5_3).f0) < (l0_0.length : Int)
       case neg =>
        rw [if_neg c39] at H
        exact absurd H (by simp)
       rw [if_pos c39] at H
       have c39b0 : decide (((rd_T97 l0_1 x5_3).f0) < (l0_0.length : Int)) = true := zE c39
       clear c39
       by_cases c40 : ((rd_T94 l0_0 ((rd_T97 l0_1 x5_3).f0)).f1) = 2
       case pos =>
        rw [if_pos c40] at H
        have c40b0 : (((rd_T94 l0_0 ((rd_T97 l0_1 x5_3).f0)).f1) == 2) = true := beq_iff_eq.mpr c40
        have c40b1 : (((rd_T94 l0_0 ((rd_T97 l0_1 x5_3).f0)).f1) != 2) = false := bne_eq_false_iff_eq.mpr c40
        clear c40
        obtain rfl := zI H
        obtain ⟨hcz41_0, hcz41_1, hfz41_0, hfz41_1⟩ := zc2 BK190.out
        have p199 : 0 ≤ (x5_3 : Int) := zT (by assumption)
        have q199 : x5_3 < (l0_1.length : Int) := zT (by assumption)
        obtain ⟨ad199, e199, hx199_0, hx199_1⟩ := at_T97 HR0_1.out x5_3 p199 q199
        cases e199
        replace hx199_0 := (HB.out.cell (zW w _ hx199_0)).trans hx199_0
        replace hx199_1 := (HB.out.cell (zW w _ hx199_1)).trans hx199_1
        replace p199 := eq_true p199
        replace q199 := eq_true q199
        go_wp2_with (first | ((with_reducible refine gate_dst (N := 6) rfl ?_); (try (refine gate_guard (by rfl) ?_; dsimp only)); refine box_event ?hg (N := 6) ?hd (cs := #[.int .i64 0, .int .i64 0]) (t := 97) ?hr ?_; (case hd => rfl); (case hg => rfl); (case hr => first | (go_simp; done) | (go_simp; rfl)); intro gb200 hg w42 hbox hb; have n0_ := zM (Kd.R_below (by (with_reducible repeat (first | apply zRa | apply zRn | apply zRd)); first | exact HO_3.out | (subst_vars; exact HO_3.out)) hb); have n1_ := zM (zNb (g := gb190) (o := .cells #[.slice A0_0 l0_0.length c0_0, .slice (some ad199) l0_1.length c0_1] 46 (0, 0)) (by (with_reducible repeat (first | apply zNn | apply zNd | apply zNa)); exact BK190.out) hb); have n2_ := zM (below_step (by repeat (first | (with_reducible first | exact HB.out | apply zBa | apply zBn | apply zBd | refine zBs ?_ GE190.out) | exact HB.out)) hb); have n3_ := zM (hbox); have n4_ := zM ((by rw [hg]; exact (below_size (by repeat (first | (with_reducible first | exact HB.out | apply zBa | apply zBn | apply zBd | refine zBs ?_ GE190.out) | exact HB.out))) : w.heap.size ≤ gb200)); have n5_ := zM n4_.out; have n6_ := zM ((by rw [hg]; exact Nat.ne_of_lt (by simpa using blk_lt BK190.out) : gb190 ≠ gb200)); have n7_ := zM ((by rw [hg]; exact Nat.ne_of_gt (by simpa using blk_lt BK190.out) : gb200 ≠ gb190)); clear HO_3; clear BK190; clear HB; have HO_3 := n0_; have BK190 := n1_; have HB := n2_; have BK200 := n3_; have GW200 := n4_; have GE200 := n5_; have NB190_200 := n6_; have NB200_190 := n7_; clear n0_ n1_ n2_ n3_ n4_ n5_ n6_ n7_; clear hb hbox hg; have hnb43 := NB200_190.out; have hnc43 := NB190_200.out; obtain ⟨hcz44_0, hcz44_1, hfz44_0, hfz44_1⟩ := zc2 BK200.out; obtain ⟨hcz45_0, hcz45_1, hfz45_0, hfz45_1⟩ := zc2 BK190.out) | ((with_reducible refine gate_callee (f := 48) rfl ?_); refine goesL_ (some 67) rfl rfl Try.func48 (by kernel_rfl) rfl #[.int .i64 ((rd_T97 l0_1 x5_3).f0), .int .i64 0, .int .i64 (wrap64 ((l0_0.length : Int) - 1))] rfl (by (try simp only [List.map_toArray, List.map_cons, List.map_nil]); first | done | rfl | (simp only [List.length_drop, List.length_take]; rfl)) ?_; (with_reducible refine (spec_l1In.calls ((rd_T97 l0_1 x5_3).f0) 0 (wrap64 ((l0_0.length : Int) - 1)) true _ A34.out).mono ?_); rintro e w' ⟨rfl, ⟨nd, rfl⟩⟩; refine ⟨_, rfl, ?_⟩) | (go_at_call 48; (with_reducible refine (spec_l1In.calls ((rd_T97 l0_1 x5_3).f1) 0 (wrap64 ((l0_0.length : Int) - 1)) true _ A36.out).mono ?_); rintro e w' ⟨rfl, ⟨nd, rfl⟩⟩; have p203 : 0 ≤ (((rd_T97 l0_1 x5_3).f0) : Int) := zT (by assumption); have q203 : ((rd_T97 l0_1 x5_3).f0) < (l0_0.length : Int) := zT (by assumption); obtain ⟨ad203, e203, hx203_0, hx203_1, hx203_2⟩ := at_T94 HR0_0.out ((rd_T97 l0_1 x5_3).f0) p203 q203; cases e203; have hn203_0 : ad203.block ≠ gb200 := Nat.ne_of_lt (Nat.lt_of_lt_of_le (by have := zW _ _ hx203_0; first | rwa [add_block] at this | exact this) GW200.out); have hn203_1 : ad203.block ≠ gb200 := Nat.ne_of_lt (Nat.lt_of_lt_of_le (by have := zW _ _ hx203_0; first | rwa [add_block] at this | exact this) GW200.out); replace hx203_0 := (HB.out.cell (zW w _ hx203_0)).trans hx203_0; replace hx203_1 := (HB.out.cell (zW w _ hx203_1)).trans hx203_1; replace hx203_2 := (HB.out.cell (zW w _ hx203_2)).trans hx203_2; replace hx203_0 := (cell_far (p := ⟨gb200, 0, none⟩) (by first | (rw [add_block]; exact hn203_0) | (show (Addr.add _ _).block ≠ _; rw [add_block]; exact hn203_0) | exact hn203_0) (.int .i64 ((rd_T97 l0_1 x5_3).f0))).trans hx203_0; replace hx203_1 := (cell_far (p := ⟨gb200, 0, none⟩) (by first | (rw [add_block]; exact hn203_0) | (show (Addr.add _ _).block ≠ _; rw [add_block]; exact hn203_0) | exact hn203_0) (.int .i64 ((rd_T97 l0_1 x5_3).f0))).trans hx203_1; replace hx203_2 := (cell_far (p := ⟨gb200, 0, none⟩) (by first | (rw [add_block]; exact hn203_0) | (show (Addr.add _ _).block ≠ _; rw [add_block]; exact hn203_0) | exact hn203_0) (.int .i64 ((rd_T97 l0_1 x5_3).f0))).trans hx203_2; replace hx203_0 := (cell_far (p := ⟨gb200, 1, none⟩) (by first | (rw [add_block]; exact hn203_1) | (show (Addr.add _ _).block ≠ _; rw [add_block]; exact hn203_1) | exact hn203_1) (.int .i64 ((rd_T97 l0_1 x5_3).f1))).trans hx203_0; replace hx203_1 := (cell_far (p := ⟨gb200, 1, none⟩) (by first | (rw [add_block]; exact hn203_1) | (show (Addr.add _ _).block ≠ _; rw [add_block]; exact hn203_1) | exact hn203_1) (.int .i64 ((rd_T97 l0_1 x5_3).f1))).trans hx203_1; replace hx203_2 := (cell_far (p := ⟨gb200, 1, none⟩) (by first | (rw [add_block]; exact hn203_1) | (show (Addr.add _ _).block ≠ _; rw [add_block]; exact hn203_1) | exact hn203_1) (.int .i64 ((rd_T97 l0_1 x5_3).f1))).trans hx203_2; clear hn203_0; clear hn203_1; replace p203 := eq_true p203; replace q203 := eq_true q203))
        go_ret
        exact ⟨by first | rfl | (simp [errW_none, errW_some] <;> rfl) | (simp [*, errW_none, errW_some] <;> rfl), by repeat (first | (with_reducible first | exact HB.out | apply zBa | apply zBn | apply zBd | refine zBs ?_ GE190.out | refine zBs ?_ GE200.out) | exact HB.out)⟩
       rw [if_neg c40] at H
       have c40b0 : (((rd_T94 l0_0 ((rd_T97 l0_1 x5_3).f0)).f1) == 2) = false := beq_eq_false_iff_ne.mpr c40
       have c40b1 : (((rd_T94 l0_0 ((rd_T97 l0_1 x5_3).f0)).f1) != 2) = true := bne_iff_ne.mpr c40
       by_cases c46 : 0 ≤ ((rd_T97 l0_1 x5_3).f1)
       case neg =>
        rw [if_neg c46] at H
        exact absurd H (by simp)
       rw [if_pos c46] at H
       have c46b0 : decide (0 ≤ ((rd_T97 l0_1 x5_3).f1)) = true := zE c46
       clear c46
       by_cases c47 : ((rd_T97 l0_1 x5_3).f1) < (x3_3.length : Int)
       case neg =>
        rw [if_neg c47] at H
        exact absurd H (by simp)
       rw [if_pos c47] at H
       have c47b0 : decide (((rd_T97 l0_1 x5_3).f1) < (x3_3.length : Int)) = true := zE c47
       clear c47
       obtain ⟨y205, hy205⟩ : ∃ y_ : List Int, y_ = (x3_3.set (((rd_T97 l0_1 x5_3).f1) : Int).toNat (wrap64 ((rd x3_3 ((rd_T97 l0_1 x5_3).f1)) + 1))) := ⟨_, rfl⟩
       replace H : (spec_PlanOk.l1 k3 y205 (wrap64 (x5_3 + 1)) l0_0 l0_1) = some r := by first | (rw [hy205]; with_reducible exact H) | (have H2_ := (Option.bind_some _ _).symm.trans H; rw [hy205]; with_reducible exact H2_) | (have H2_ := (Option.bind_some _ _).symm.trans H; with_reducible exact H2_) | with_reducible exact H | (rw [hy205]; exact H) | exact H
       have Ny205 := zM hy205
       clear hy205
       have H' := zM H
       clear H
       obtain ⟨hcz49_0, hcz49_1, hfz49_0, hfz49_1⟩ := zc2 BK190.out
       have p199 : 0 ≤ (x5_3 : Int) := zT (by assumption)
       have q199 : x5_3 < (l0_1.length : Int) := zT (by assumption)
       obtain ⟨ad199, e199, hx199_0, hx199_1⟩ := at_T97 HR0_1.out x5_3 p199 q199
       cases e199
       replace hx199_0 := (HB.out.cell (zW w _ hx199_0)).trans hx199_0
       replace hx199_1 := (HB.out.cell (zW w _ hx199_1)).trans hx199_1
       replace p199 := eq_true p199
       replace q199 := eq_true q199
       go_wp2_with (first | ((with_reducible refine gate_dst (N := 6) rfl ?_); (try (refine gate_guard (by rfl) ?_; dsimp only)); refine box_event ?hg (N := 6) ?hd (cs := #[.int .i64 0, .int .i64 0]) (t := 97) ?hr ?_; (case hd => rfl); (case hg => rfl); (case hr => first | (go_simp; done) | (go_simp; rfl)); intro gb200 hg w50 hbox hb; have n0_ := zM (Kd.R_below (by (with_reducible repeat (first | apply zRa | apply zRn | apply zRd)); first | exact HO_3.out | (subst_vars; exact HO_3.out)) hb); have n1_ := zM (zNb (g := gb190) (o := .cells #[.slice A0_0 l0_0.length c0_0, .slice (some ad199) l0_1.length c0_1] 46 (0, 0)) (by (with_reducible repeat (first | apply zNn | apply zNd | apply zNa)); exact BK190.out) hb); have n2_ := zM (below_step (by repeat (first | (with_reducible first | exact HB.out | apply zBa | apply zBn | apply zBd | refine zBs ?_ GE190.out) | exact HB.out)) hb); have n3_ := zM (hbox); have n4_ := zM ((by rw [hg]; exact (below_size (by repeat (first | (with_reducible first | exact HB.out | apply zBa | apply zBn | apply zBd | refine zBs ?_ GE190.out) | exact HB.out))) : w.heap.size ≤ gb200)); have n5_ := zM n4_.out; have n6_ := zM ((by rw [hg]; exact Nat.ne_of_lt (by simpa using blk_lt BK190.out) : gb190 ≠ gb200)); have n7_ := zM ((by rw [hg]; exact Nat.ne_of_gt (by simpa using blk_lt BK190.out) : gb200 ≠ gb190)); clear HO_3; clear BK190; clear HB; have HO_3 := n0_; have BK190 := n1_; have HB := n2_; have BK200 := n3_; have GW200 := n4_; have GE200 := n5_; have NB190_200 := n6_; have NB200_190 := n7_; clear n0_ n1_ n2_ n3_ n4_ n5_ n6_ n7_; clear hb hbox hg; have hnb51 := NB200_190.out; have hnc51 := NB190_200.out; obtain ⟨hcz52_0, hcz52_1, hfz52_0, hfz52_1⟩ := zc2 BK200.out) | ((with_reducible refine gate_store (t := 97) (p := 6) rfl ?_); refine store_event (t := 97) (p := 6) (v := ?vo_w53) (w1 := ((w50.setCell ⟨gb200, 0, none⟩ (.int .i64 ((rd_T97 l0_1 x5_3).f0))).setCell ⟨gb200, 1, none⟩ (.int .i64 ((rd_T97 l0_1 x5_3).f1)))) ?hg ?ho ?hn ?hr ?_; (case ho => rfl); (case hg => rfl); (case hn => rfl); (case hr => first | (go_simp; done) | (go_simp; rfl)); intro w53 hw; have n0_ : Aside0 (Kd.R (Kd.int .i64) 3 w53 w.heap.size (fun _ => True) v193 x3_3) := ⟨(by rw [hw]; exact (by (with_reducible repeat (first | apply zRa | apply zRn | apply zRd)); exact Kd.R_mono (Kd.R_far (p := ⟨gb200, 1, none⟩) (Kd.R_far (p := ⟨gb200, 0, none⟩) (Kd.R_types HO_3.out BK200.out (by decide)) (fun _ hk => hk.2) (.int .i64 ((rd_T97 l0_1 x5_3).f0))) (fun _ hk => hk.2) (.int .i64 ((rd_T97 l0_1 x5_3).f1))) (fun _ hk => trivial)))⟩; have n1_ : Aside0 (w53.heap[gb190]? = some (.cells #[.slice A0_0 l0_0.length c0_0, .slice (some ad199) l0_1.length c0_1] 46 (0, 0))) := ⟨(by rw [hw]; exact (by exact zNf (zNf (BK190.out) NB190_200.out _) NB190_200.out _))⟩; have n2_ : Aside0 (w53.heap[gb200]? = some (.cells #[.int .i64 ((rd_T97 l0_1 x5_3).f0), .int .i64 ((rd_T97 l0_1 x5_3).f1)] 97 (0, 0))) := ⟨(by rw [hw]; exact (by exact blk_put (blk_put (BK200.out) 0 _ rfl) 1 _ rfl))⟩; have n3_ : Aside0 (Below w.heap.size w w53) := ⟨(by rw [hw]; exact (by repeat (first | (with_reducible first | exact HB.out | apply zBa | apply zBn | apply zBd | refine zBs ?_ GE190.out | refine zBs ?_ GE200.out) | exact HB.out)))⟩; clear hw; clear HO_3; clear BK190; clear BK200; clear HB; have HO_3 := n0_; have BK190 := n1_; have BK200 := n2_; have HB := n3_; clear n0_ n1_ n2_ n3_; obtain ⟨hcz54_0, hcz54_1, hfz54_0, hfz54_1⟩ := zc2 BK200.out; obtain ⟨hcz55_0, hcz55_1, hfz55_0, hfz55_1⟩ := zc2 BK190.out) | ((with_reducible refine gate_callee (f := 48) rfl ?_); refine goesL_ (some 67) rfl rfl Try.func48 (by kernel_rfl) rfl #[.int .i64 ((rd_T97 l0_1 x5_3).f0), .int .i64 0, .int .i64 (wrap64 ((l0_0.length : Int) - 1))] rfl (by (try simp only [List.map_toArray, List.map_cons, List.map_nil]); first | done | rfl | (simp only [List.length_drop, List.length_take]; rfl)) ?_; (with_reducible refine (spec_l1In.calls ((rd_T97 l0_1 x5_3).f0) 0 (wrap64 ((l0_0.length : Int) - 1)) true _ A34.out).mono ?_); rintro e w' ⟨rfl, ⟨nd, rfl⟩⟩; refine ⟨_, rfl, ?_⟩; (try (rw [drewN_self w53]; generalize hq_ : World.drewN w53 _ = w53; have n0_ : Aside0 (Kd.R (Kd.int .i64) 3 w53 w.heap.size (fun _ => True) v193 x3_3) := ⟨by rw [← hq_]; exact (by (with_reducible repeat (first | apply zRa | apply zRn | apply zRd)); first | exact HO_3.out | (subst_vars; exact HO_3.out))⟩; have n1_ : Aside0 (w53.heap[gb190]? = some (.cells #[.slice A0_0 l0_0.length c0_0, .slice (some ad199) l0_1.length c0_1] 46 (0, 0))) := ⟨by rw [← hq_]; exact (by (with_reducible repeat (first | apply zNn | apply zNd | apply zNa)); exact BK190.out)⟩; have n2_ : Aside0 (w53.heap[gb200]? = some (.cells #[.int .i64 ((rd_T97 l0_1 x5_3).f0), .int .i64 ((rd_T97 l0_1 x5_3).f1)] 97 (0, 0))) := ⟨by rw [← hq_]; exact (by (with_reducible repeat (first | apply zNn | apply zNd | apply zNa)); exact BK200.out)⟩; have n3_ : Aside0 (Below w.heap.size w w53) := ⟨by rw [← hq_]; exact (by repeat (first | (with_reducible first | exact HB.out | apply zBa | apply zBn | apply zBd | refine zBs ?_ GE190.out | refine zBs ?_ GE200.out) | exact HB.out))⟩; clear HO_3 BK190 BK200 HB hq_; have HO_3 := n0_; have BK190 := n1_; have BK200 := n2_; have HB := n3_; clear n0_ n1_ n2_ n3_; obtain ⟨hcrgb190_0, hcrgb190_1, hfrgb190_0, hfrgb190_1⟩ := zc2 BK190.out; obtain ⟨hcrgb200_0, hcrgb200_1, hfrgb200_0, hfrgb200_1⟩ := zc2 BK200.out))) | (go_at_call 48; (with_reducible refine (spec_l1In.calls ((rd_T97 l0_1 x5_3).f1) 0 (wrap64 ((l0_0.length : Int) - 1)) true _ A36.out).mono ?_); rintro e w' ⟨rfl, ⟨nd, rfl⟩⟩; (try (rw [drewN_self w53]; generalize hq_ : World.drewN w53 _ = w53; have n0_ : Aside0 (Kd.R (Kd.int .i64) 3 w53 w.heap.size (fun _ => True) v193 x3_3) := ⟨by rw [← hq_]; exact (by (with_reducible repeat (first | apply zRa | apply zRn | apply zRd)); first | exact HO_3.out | (subst_vars; exact HO_3.out))⟩; have n1_ : Aside0 (w53.heap[gb190]? = some (.cells #[.slice A0_0 l0_0.length c0_0, .slice (some ad199) l0_1.length c0_1] 46 (0, 0))) := ⟨by rw [← hq_]; exact (by (with_reducible repeat (first | apply zNn | apply zNd | apply zNa)); exact BK190.out)⟩; have n2_ : Aside0 (w53.heap[gb200]? = some (.cells #[.int .i64 ((rd_T97 l0_1 x5_3).f0), .int .i64 ((rd_T97 l0_1 x5_3).f1)] 97 (0, 0))) := ⟨by rw [← hq_]; exact (by (with_reducible repeat (first | apply zNn | apply zNd | apply zNa)); exact BK200.out)⟩; have n3_ : Aside0 (Below w.heap.size w w53) := ⟨by rw [← hq_]; exact (by repeat (first | (with_reducible first | exact HB.out | apply zBa | apply zBn | apply zBd | refine zBs ?_ GE190.out | refine zBs ?_ GE200.out) | exact HB.out))⟩; clear HO_3 BK190 BK200 HB hq_; have HO_3 := n0_; have BK190 := n1_; have BK200 := n2_; have HB := n3_; clear n0_ n1_ n2_ n3_; obtain ⟨hcrgb190_0, hcrgb190_1, hfrgb190_0, hfrgb190_1⟩ := zc2 BK190.out; obtain ⟨hcrgb200_0, hcrgb200_1, hfrgb200_0, hfrgb200_1⟩ := zc2 BK200.out)); have p203 : 0 ≤ (((rd_T97 l0_1 x5_3).f0) : Int) := zT (by assumption); have q203 : ((rd_T97 l0_1 x5_3).f0) < (l0_0.length : Int) := zT (by assumption); obtain ⟨ad203, e203, hx203_0, hx203_1, hx203_2⟩ := at_T94 HR0_0.out ((rd_T97 l0_1 x5_3).f0) p203 q203; cases e203; replace hx203_0 := (HB.out.cell (zW w _ hx203_0)).trans hx203_0; replace hx203_1 := (HB.out.cell (zW w _ hx203_1)).trans hx203_1; replace hx203_2 := (HB.out.cell (zW w _ hx203_2)).trans hx203_2; replace p203 := eq_true p203; replace q203 := eq_true q203; obtain ⟨Ao56, co56, eo56⟩ := Kd.R_slice HO_3.out; subst eo56; have p204 : 0 ≤ (((rd_T97 l0_1 x5_3).f1) : Int) := zT (by assumption); have q204 : ((rd_T97 l0_1 x5_3).f1) < (x3_3.length : Int) := zT (by assumption); obtain ⟨ad204, e204, hx204_0⟩ := Kd.at_int (Kd.R_reads' HO_3.out).2.2 ((rd_T97 l0_1 x5_3).f1) p204 q204; cases e204; replace p204 := eq_true p204; replace q204 := eq_true q204; have p48 : 0 ≤ (((rd_T97 l0_1 x5_3).f1) : Int) := zT (by assumption); have q48 : (((rd_T97 l0_1 x5_3).f1) : Int) < ((x3_3.length : Int) : Int) := zT (by assumption); obtain ⟨go48, co48, eo48, gb48, gl48, cl48, HG48⟩ := Kd.R_form HO_3.out (by omega); (first | cases eo48 | (injection eo48 with ea_ en_ ec_; (first | subst ea_ | (injection ea_ with ea_; subst ea_)); subst ec_; clear en_)); have GB48 := zM gb48; have GG48 := zM HG48; clear gb48 gl48 HG48; (first | simp only [add_plain] at hx204_0 | skip); obtain ⟨hx48_0, hf48_0⟩ := Kd.R_celln 0 HO_3.out (((rd_T97 l0_1 x5_3).f1) : Int) p48 q48; replace p48 := eq_true p48; replace q48 := eq_true q48; obtain ⟨hy57_, hz57_⟩ := Kd.R_celln 0 HO_3.out (((rd_T97 l0_1 x5_3).f1) : Int) (zT (by assumption)) (zT (by assumption)); have HP57 := Kd.R_putg HO_3.out (((rd_T97 l0_1 x5_3).f1) : Int) (wrap64 ((rd x3_3 ((rd_T97 l0_1 x5_3).f1)) + 1))) | ((with_reducible refine gate_store (t := 3) (p := 95) rfl ?_); refine store_event (t := 3) (p := 95) (v := ?vo_w58) (w1 := (w53.setCell ⟨go48, (((rd_T97 l0_1 x5_3).f1) : Int).toNat, none⟩ (.int .i64 (wrap64 ((rd x3_3 ((rd_T97 l0_1 x5_3).f1)) + 1))))) ?hg ?ho ?hn ?hr ?_; (case ho => rfl); (case hg => rfl); (case hn => rfl); (case hr => first | (go_simp; done) | (go_simp; rfl)); intro w58 hw; have hg : w53.grownBy w58 (some go48) := (by rw [hw]; exact HP57.2); have hp_ : Kd.R (Kd.int .i64) 3 w58 w.heap.size (fun _ => True) (.slice (some ⟨go48, 0, none⟩) x3_3.length co56) y205 := (by rw [hw, Ny205.out]; exact HP57.1); clear HP57; have n0_ := zM (hp_); have n1_ := zM (blk_grown (g := gb190) (o := .cells #[.slice (some ad203) l0_0.length c0_0, .slice (some ad199) l0_1.length c0_1] 46 (0, 0)) (by (with_reducible repeat (first | apply zNn | apply zNd | apply zNa)); exact BK190.out) hg (Kd.R_ne HO_3.out BK190.out (by decide))); have n2_ := zM (blk_grown (g := gb200) (o := .cells #[.int .i64 ((rd_T97 l0_1 x5_3).f0), .int .i64 ((rd_T97 l0_1 x5_3).f1)] 97 (0, 0)) (by (with_reducible repeat (first | apply zNn | apply zNd | apply zNa)); exact BK200.out) hg (Kd.R_ne HO_3.out BK200.out (by decide))); have n3_ := zM ((by rw [hw]; exact zBs (HB.out) GB48.out : Below w.heap.size w w58)); clear HO_3; clear BK190; clear BK200; clear HB; have HO_3 := n0_; have BK190 := n1_; have BK200 := n2_; have HB := n3_; clear n0_ n1_ n2_ n3_; clear hg hw hp_))
       go_roundg k3
       case measure => have := HJ1.out; have := HK2.out; have := HK3.out; omega
       case rel => exact ⟨(y205), (wrap64 (x5_3 + 1)), (by first | rfl | (simp; done) | (simp [*]; done)), H', ⟨by have := HJ1.out; have := HK2.out; have := HK3.out; omega⟩, ⟨by (with_reducible repeat (first | apply zRa | apply zRn | apply zRd)); first | exact HO_3.out | (subst_vars; exact HO_3.out)⟩, ⟨by (with_reducible repeat (first | apply zNn | apply zNd | apply zNa)); exact BK190.out⟩, ⟨by repeat (first | (with_reducible first | exact HB.out | apply zBa | apply zBn | apply zBd | refine zBs ?_ GE190.out | refine zBs ?_ GE200.out) | exact HB.out)⟩⟩

end Go.Proofs.Ytckadpomhdjkhaa.PFnExactWiring
