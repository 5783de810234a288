-- Written by a turned copy of the print (see the notes of this repo): plain functions and their walks. Lean checks it.
import Derived.Test.YtpphjbogijjnpaaPFnParitiesx0
import Derived.Test.YtpphjbogijjnpaaPFnParitiesx2
import Derived.Test.YtpphjbogijjnpaaPFnParitiesx3
namespace Go.Proofs.Ytpphjbogijjnpaa.PFnParities
open Go.RowKit Go.Proofs.YtpphjbogijjnpaaW.PrintWords Go.Proofs.YtpphjbogijjnpaaW.PrintLast Go.Proofs.YtpphjbogijjnpaaW.PrintMore
attribute [local go_sem] max2_int min2_int max_two min_two max_three min_three max_four min_four   -- for this text's walks alone
set_option linter.unusedVariables false
set_option linter.unusedSimpArgs false

/-! ### spec_Fails: function 10 -/
mutual
def spec_Fails.j0 : Nat → List (List Int) → List Int → List Int → Bool → Option (List Int × Bool)
 | 0, _, _, _, _ => none
 | k + 1, x0, x1, x6, x20 => if x20 = true then (some (x6, false)) else (spec_Fails.l0 k x0 x1 x6 0)
def spec_Fails.l0 : Nat → List (List Int) → List Int → List Int → Int → Option (List Int × Bool)
 | 0, _, _, _, _ => none
 | k + 1, x0, x1, x6, x7 => if x7 < (x0.length : Int) then (spec_Fails.l1 k x0 x1 x6 x7 0 0) else (some (x6, true))
def spec_Fails.l1 : Nat → List (List Int) → List Int → List Int → Int → Int → Int → Option (List Int × Bool)
 | 0, _, _, _, _, _, _ => none
 | k + 1, x0, x1, x6, x7, x8, x9 => if 0 ≤ x7 then (if x7 < (x0.length : Int) then (if x9 < ((rd_L1 x0 x7).length : Int) then (if 0 ≤ x9 then (if 0 ≤ (rd (rd_L1 x0 x7) x9) then (if (rd (rd_L1 x0 x7) x9) < (x1.length : Int) then (spec_Fails.l1 k x0 x1 x6 x7 (wrap64 (x8 + (rd x1 (rd (rd_L1 x0 x7) x9)))) (wrap64 (x9 + 1))) else (none)) else (none)) else (none)) else (if (Int.tmod x8 2) = 1 then (if x6.length < 17592186044416 then (spec_Fails.l0 k x0 x1 (x6 ++ [x7]) (wrap64 (x7 + 1))) else (none)) else (spec_Fails.l0 k x0 x1 x6 (wrap64 (x7 + 1))))) else (none)) else (none)
end
def spec_Fails.f (k : Nat) (l0 : List (List Int)) (l1 : List Int) : Option (List Int × Bool) := (some (([] : List Int) : List Int)).bind fun y131 => ((spec_BitsOk.f k l1).bind fun t134 => (if t134 = true then ((spec_ChecksOk.f k l0 (l1.length : Int)).bind fun t135 => (spec_Fails.j0 k l0 l1 y131 (!t135))) else (spec_Fails.j0 k l0 l1 y131 true)))
theorem spec_Fails.mono_l : ∀ k, (∀ y0 y1 y2 y3, LeO (spec_Fails.j0 k y0 y1 y2 y3) (spec_Fails.j0 (k + 1) y0 y1 y2 y3)) ∧ (∀ y0 y1 y2 y3, LeO (spec_Fails.l0 k y0 y1 y2 y3) (spec_Fails.l0 (k + 1) y0 y1 y2 y3)) ∧ (∀ y0 y1 y2 y3 y4 y5, LeO (spec_Fails.l1 k y0 y1 y2 y3 y4 y5) (spec_Fails.l1 (k + 1) y0 y1 y2 y3 y4 y5))
 | 0 => ⟨fun _ _ _ _ r h => by simp [spec_Fails.j0] at h, fun _ _ _ _ r h => by simp [spec_Fails.l0] at h, fun _ _ _ _ _ _ r h => by simp [spec_Fails.l1] at h⟩
 | k + 1 => by
  obtain ⟨ih0, ih1, ih2⟩ := spec_Fails.mono_l k
  refine ⟨?_, ?_, ?_⟩
  ·intro y0 y1 y2 y3
   unfold spec_Fails.j0
   repeat' first
   | (with_reducible exact ih0 _ _ _ _)
   | (with_reducible exact ih1 _ _ _ _)
   | (with_reducible exact ih2 _ _ _ _ _ _)
   | (with_reducible exact spec_BitsOk.mono _ _)
   | (with_reducible exact spec_ChecksOk.mono _ _ _)
   | (with_reducible exact LeO.refl _)
   | (with_reducible exact LeO.none _)
   | (with_reducible refine LeO.ite ?_ ?_)
   | (with_reducible refine LeO.bind ?_ (fun _ => ?_))
  ·intro y0 y1 y2 y3
   unfold spec_Fails.l0
   repeat' first
   | (with_reducible exact ih0 _ _ _ _)
   | (with_reducible exact ih1 _ _ _ _)
   | (with_reducible exact ih2 _ _ _ _ _ _)
   | (with_reducible exact spec_BitsOk.mono _ _)
   | (with_reducible exact spec_ChecksOk.mono _ _ _)
   | (with_reducible exact LeO.refl _)
   | (with_reducible exact LeO.none _)
   | (with_reducible refine LeO.ite ?_ ?_)
   | (with_reducible refine LeO.bind ?_ (fun _ => ?_))
  ·intro y0 y1 y2 y3 y4 y5
   unfold spec_Fails.l1
   repeat' first
   | (with_reducible exact ih0 _ _ _ _)
   | (with_reducible exact ih1 _ _ _ _)
   | (with_reducible exact ih2 _ _ _ _ _ _)
   | (with_reducible exact spec_BitsOk.mono _ _)
   | (with_reducible exact spec_ChecksOk.mono _ _ _)
   | (with_reducible exact LeO.refl _)
   | (with_reducible exact LeO.none _)
   | (with_reducible refine LeO.ite ?_ ?_)
   | (with_reducible refine LeO.bind ?_ (fun _ => ?_))
theorem spec_Fails.mono : ∀ a0 a1 k, LeO (spec_Fails.f k a0 a1) (spec_Fails.f (k + 1) a0 a1) := by
 intro a0 a1 k
 obtain ⟨ih0, ih1, ih2⟩ := spec_Fails.mono_l k
 unfold spec_Fails.f
 repeat' first
  | (with_reducible exact ih0 _ _ _ _)
  | (with_reducible exact ih1 _ _ _ _)
  | (with_reducible exact ih2 _ _ _ _ _ _)
  | (with_reducible exact spec_BitsOk.mono _ _)
  | (with_reducible exact spec_ChecksOk.mono _ _ _)
  | (with_reducible exact LeO.refl _)
  | (with_reducible exact LeO.none _)
  | (with_reducible refine LeO.ite ?_ ?_)
  | (with_reducible refine LeO.bind ?_ (fun _ => ?_))
set_option maxHeartbeats 8000000 in
set_option maxRecDepth 100000 in
theorem spec_Fails.calls (k : Nat) (A0 : Option Addr) (c0 : Nat) (l0 : List (List Int)) (A1 : Option Addr) (c1 : Nat) (l1 : List Int) (r1 : List Int) (r2 : Bool) (w : World) (hr0 : Kd.C (Kd.slice 3 (Kd.int .i64)) w A0 l0.length l0) (hc0 : l0.length ≤ c0) (hr1 : Kd.C (Kd.int .i64) w A1 l1.length l1) (hc1 : l1.length ≤ c1) (h : spec_Fails.f k l0 l1 = some (r1, r2)) :
 Calls Try.prog 10 #[.slice A0 l0.length c0, .slice A1 l1.length c1] w fun e w' => ∃ v0_ : Value, e = .returned (.tuple #[v0_, .bool r2]) ∧ Kd.R (Kd.int .i64) 3 w' w.heap.size (fun _ => True) v0_ r1 ∧ Below w.heap.size w w' := by
 have HR0 := zM hr0
 have HC0 := zM hc0
 clear hr0 hc0
 have HR1 := zM hr1
 have HC1 := zM hc1
 clear hr1 hc1
 have HB := zM (Below.refl w.heap.size w)
 have H : ((some (([] : List Int) : List Int)).bind fun y131 => ((spec_BitsOk.f k l1).bind fun t134 => (if t134 = true then ((spec_ChecksOk.f k l0 (l1.length : Int)).bind fun t135 => (spec_Fails.j0 k l0 l1 y131 (!t135))) else (spec_Fails.j0 k l0 l1 y131 true)))) = some (r1, r2) := h
 clear h
 obtain ⟨y131, hy131⟩ : ∃ y_ : List Int, y_ = (([] : List Int)) := ⟨_, rfl⟩
 replace H : ((spec_BitsOk.f k l1).bind fun t134 => (if t134 = true then ((spec_ChecksOk.f k l0 (l1.length : Int)).bind fun t135 => (spec_Fails.j0 k l0 l1 y131 (!t135))) else (spec_Fails.j0 k l0 l1 y131 true))) = some (r1, r2) := by first | (rw [hy131]; with_reducible exact H) | (have H2_ := (Option.bind_some _ _).symm.trans H; rw [hy131]; with_reducible exact H2_) | (have H2_ := (Option.bind_some _ _).symm.trans H; with_reducible exact H2_) | with_reducible exact H | (rw [hy131]; exact H) | exact H
 have Ny131 := zM hy131
 clear hy131
 have HC3 := zM H
 clear H
 go_enter Try.func10, Try.ntmps10
 go_upto_region 2 with (first | ((with_reducible refine gate_dst (N := 10) rfl ?_); (try (refine gate_guard (by rfl) ?_; dsimp only)); refine Kd.R_lit (Kd.int .i64) _ 3 ?hg (N := 10) ?hd (xs := ([] : List Int)) (inner := []) (ok := fun _ => True) (okp := fun _ => True) ?hr ?hp (fun _ hk => hk) trivial (Below.refl _ _) (Nat.le_refl _) (by simp) ?_; (case hd => rfl); (case hg => rfl); (case hr => first | (go_simp; done) | (go_simp; rfl)); (case hp => exact (Reps.none _ _)); intro v132 w4 ho5 hb hg_ hnew_; clear hg_ hnew_; (first | rw [← Ny131.out] at ho5 | (simp only [Int.reduceToNat] at ho5; rw [← Ny131.out] at ho5)); have n0_ := zM (Kd.R_lower ho5 (below_size (by repeat (first | (with_reducible first | exact HB.out | apply zBa | apply zBn | apply zBd) | exact HB.out)))); have n1_ := zM (below_step (by repeat (first | (with_reducible first | exact HB.out | apply zBa | apply zBn | apply zBd) | exact HB.out)) hb); clear HB; have HO133 := n0_; have HB := n1_; clear n0_ n1_; clear hb ho5))
 (try simp only [Act.put, zS1, zS2, zS3])
 go_cut [20] (fun v20 wc => ∃ (kq : Nat) (x20_2 : Bool), v20 = .bool x20_2 ∧ Aside0 (spec_Fails.j0 kq l0 l1 y131 x20_2 = some (r1, r2)) ∧ Aside0 (kq ≤ k) ∧ Aside0 (Kd.R (Kd.int .i64) 3 wc w.heap.size (fun _ => True) v132 y131) ∧ Aside0 (Below w.heap.size w wc))
 case first =>
  have H := HC3.out
  clear HC3
  replace H := zO.mp H
  obtain ⟨t134, A60, H⟩ := H
  replace H : (if t134 = true then ((spec_ChecksOk.f k l0 (l1.length : Int)).bind fun t135 => (spec_Fails.j0 k l0 l1 y131 (!t135))) else (spec_Fails.j0 k l0 l1 y131 true)) = some (r1, r2) := H
  have A6 := zM A60
  clear A60
  by_cases c7 : t134 = true
  case neg =>
   replace c7 := Bool.eq_false_iff.mpr c7
   subst c7
   have H1 : (spec_Fails.j0 k l0 l1 y131 true) = some (r1, r2) := by rw [if_neg (show ¬ (false = true) by decide)] at H; exact H
   clear H
   have H := H1
   clear H1
   have H' := zM H
   clear H
   go_wp2_with (first | ((with_reducible refine gate_callee (f := 33) rfl ?_); refine goesL_ (some 12) rfl rfl Try.func33 (by kernel_rfl) rfl #[.slice A1 l1.length c1] rfl (by (try simp only [List.map_toArray, List.map_cons, List.map_nil]); first | done | rfl | (simp only [List.length_drop, List.length_take]; rfl)) ?_; (with_reducible refine (spec_BitsOk.calls k _ _ l1 false _ ?side1 ?side2 A6.out).mono ?_); (case side1 => repeat (first | exact (Kd.C_below HR1.out HB.out) | (with_reducible first | refine zCa ?_ _ | refine zCn ?_ _ | refine zCd ?_))); (case side2 => exact HC1.out); rintro e w' ⟨rfl, ⟨nd, rfl⟩⟩; refine ⟨_, rfl, ?_⟩))
   go_meet
   case rel => exact ⟨_, (true), (by first | rfl | (simp; done) | (simp [*]; done)), H', ⟨by first | omega | exact Nat.le_refl _⟩, ⟨by (with_reducible repeat (first | apply zRa | apply zRn | apply zRd)); first | exact HO133.out | (subst_vars; exact HO133.out)⟩, ⟨by repeat (first | (with_reducible first | exact HB.out | apply zBa | apply zBn | apply zBd) | exact HB.out)⟩⟩
  subst c7
  have H1 : ((spec_ChecksOk.f k l0 (l1.length : Int)).bind fun t135 => (spec_Fails.j0 k l0 l1 y131 (!t135))) = some (r1, r2) := by rw [if_pos rfl] at H; exact H
  clear H
  have H := H1
  clear H1
  replace H := zO.mp H
  obtain ⟨t135, A80, H⟩ := H
  replace H : (spec_Fails.j0 k l0 l1 y131 (!t135)) = some (r1, r2) := H
  have A8 := zM A80
  clear A80
  have H' := zM H
  clear H
  go_wp2_with (first | ((with_reducible refine gate_callee (f := 33) rfl ?_); refine goesL_ (some 12) rfl rfl Try.func33 (by kernel_rfl) rfl #[.slice A1 l1.length c1] rfl (by (try simp only [List.map_toArray, List.map_cons, List.map_nil]); first | done | rfl | (simp only [List.length_drop, List.length_take]; rfl)) ?_; (with_reducible refine (spec_BitsOk.calls k _ _ l1 true _ ?side1 ?side2 A6.out).mono ?_); (case side1 => repeat (first | exact (Kd.C_below HR1.out HB.out) | (with_reducible first | refine zCa ?_ _ | refine zCn ?_ _ | refine zCd ?_))); (case side2 => exact HC1.out); rintro e w' ⟨rfl, ⟨nd, rfl⟩⟩; refine ⟨_, rfl, ?_⟩) | (go_at_call 34; (with_reducible refine (spec_ChecksOk.calls k _ _ l0 (l1.length : Int) t135 _ ?side1 ?side2 A8.out).mono ?_); (case side1 => repeat (first | exact (Kd.C_below HR0.out (by repeat (first | (with_reducible first | exact HB.out | apply zBa | apply zBn | apply zBd) | exact HB.out))) | (with_reducible first | refine zCa ?_ _ | refine zCn ?_ _ | refine zCd ?_))); (case side2 => exact HC0.out); rintro e w9 ⟨rfl, hb⟩; have n0_ := zM (Kd.R_below (by (with_reducible repeat (first | apply zRa | apply zRn | apply zRd)); first | exact HO133.out | (subst_vars; exact HO133.out)) hb); have n1_ := zM (below_step (by repeat (first | (with_reducible first | exact HB.out | apply zBa | apply zBn | apply zBd) | exact HB.out)) hb); clear HO133; clear HB; have HO133 := n0_; have HB := n1_; clear n0_ n1_; (try clear hb); (try clear hb2); (try clear hk); (try clear hi)))
  go_meet
  case rel => exact ⟨_, (!t135), (by first | rfl | (simp; done) | (simp [*]; done)), H', ⟨by first | omega | exact Nat.le_refl _⟩, ⟨by (with_reducible repeat (first | apply zRa | apply zRn | apply zRd)); first | exact HO133.out | (subst_vars; exact HO133.out)⟩, ⟨by repeat (first | (with_reducible first | exact HB.out | apply zBa | apply zBn | apply zBd) | exact HB.out)⟩⟩
 case rest =>
  clear HC3
  try clear c1
  try clear p2
  try clear c3
  try clear c7
  obtain ⟨kq, x20_2, rfl, HA, HJ2, HO_6, HB⟩ := hcut
  cases kq with
  | zero => exact absurd HA.out (by simp [spec_Fails.j0])
  | succ kj2 =>
   have H := HA.out
   clear HA
   simp only [spec_Fails.j0] at H
   by_cases c10 : x20_2 = true
   case pos =>
    subst c10
    have H1 : (some (y131, false)) = some (r1, r2) := by rw [if_pos rfl] at H; exact H
    clear H
    have H := H1
    clear H1
    simp only [Option.some.injEq, Prod.mk.injEq] at H
    obtain ⟨rfl, rfl⟩ := H
    go_wp2
    go_ret2
    exact ⟨_, by first | rfl | (simp [errW_none, errW_some] <;> rfl) | (simp [*, errW_none, errW_some] <;> rfl), by (with_reducible repeat (first | apply zRa | apply zRn | apply zRd)); first | exact HO_6.out | (subst_vars; exact HO_6.out), by repeat (first | (with_reducible first | exact HB.out | apply zBa | apply zBn | apply zBd) | exact HB.out)⟩
   replace c10 := Bool.eq_false_iff.mpr c10
   subst c10
   have H1 : (spec_Fails.l0 kj2 l0 l1 y131 0) = some (r1, r2) := by rw [if_neg (show ¬ (false = true) by decide)] at H; exact H
   clear H
   have H := H1
   clear H1
   have H' := zM H
   clear H
   go_wp2
   (try simp only [Act.put, zS1, zS2, zS3])
   go_loopg [6, 7] kj2 (fun kq v6 v7 w' => ∃ (x6_2 : List Int) (x7_2 : Int), v7 = .int .i64 x7_2 ∧ Aside0 (spec_Fails.l0 kq l0 l1 x6_2 x7_2 = some (r1, r2)) ∧ Aside0 (kq ≤ kj2) ∧ Aside0 (Kd.R (Kd.int .i64) 3 w' w.heap.size (fun _ => True) v6 x6_2) ∧ Aside0 (Below w.heap.size w w'))
   case atStart => exact ⟨(y131), (0), (by first | rfl | (simp; done) | (simp [*]; done)), H', ⟨Nat.le_refl _⟩, ⟨by (with_reducible repeat (first | apply zRa | apply zRn | apply zRd)); first | exact HO_6.out | (subst_vars; exact HO_6.out)⟩, ⟨by repeat (first | (with_reducible first | exact HB.out | apply zBa | apply zBn | apply zBd) | exact HB.out)⟩⟩
   case round =>
    clear H'
    try clear c1
    try clear p2
    try clear c3
    try clear c7
    try clear c10
    try clear p2
    obtain ⟨x6_2, x7_2, rfl, HA, HK2, HO_6, HB⟩ := hrel
    cases gk with
    | zero => exact absurd HA.out (by simp [spec_Fails.l0])
    | succ k2 =>
     have H := HA.out
     clear HA
     simp only [spec_Fails.l0] at H
     by_cases c11 : x7_2 < (l0.length : Int)
     case neg =>
      rw [if_neg c11] at H
      have c11b0 : decide (x7_2 < (l0.length : Int)) = false := decide_eq_false c11
      clear c11
      simp only [Option.some.injEq, Prod.mk.injEq] at H
      obtain ⟨rfl, rfl⟩ := H
      go_wp2
      go_ret2
      exact ⟨_, by first | rfl | (simp [errW_none, errW_some] <;> rfl) | (simp [*, errW_none, errW_some] <;> rfl), by (with_reducible repeat (first | apply zRa | apply zRn | apply zRd)); first | exact HO_6.out | (subst_vars; exact HO_6.out), by repeat (first | (with_reducible first | exact HB.out | apply zBa | apply zBn | apply zBd) | exact HB.out)⟩
     rw [if_pos c11] at H
     have c11b0 : decide (x7_2 < (l0.length : Int)) = true := zE c11
     clear c11
     have H' := zM H
     clear H
     go_wp2
     (try simp only [Act.put, zS1, zS2, zS3])
     go_loopg [8, 9] k2 (fun kq v8 v9 w' => ∃ (x8_3 : Int) (x9_3 : Int), v8 = .int .i64 x8_3 ∧ v9 = .int .i64 x9_3 ∧ Aside0 (spec_Fails.l1 kq l0 l1 x6_2 x7_2 x8_3 x9_3 = some (r1, r2)) ∧ Aside0 (kq ≤ k2) ∧ Aside0 (Kd.R (Kd.int .i64) 3 w' w.heap.size (fun _ => True) u6 x6_2) ∧ Aside0 (Below w.heap.size w w'))
     case atStart => exact ⟨(0), (0), (by first | rfl | (simp; done) | (simp [*]; done)), (by first | rfl | (simp; done) | (simp [*]; done)), H', ⟨Nat.le_refl _⟩, ⟨by (with_reducible repeat (first | apply zRa | apply zRn | apply zRd)); first | exact HO_6.out | (subst_vars; exact HO_6.out)⟩, ⟨by repeat (first | (with_reducible first | exact HB.out | apply zBa | apply zBn | apply zBd) | exact HB.out)⟩⟩
     case round =>
      clear H'
      try clear c1
      try clear p2
      try clear c3
      try clear c7
      try clear c10
      try clear c11
      try clear c11b0
      try clear p2
      obtain ⟨x8_3, x9_3, rfl, rfl, HA, HK3, HO_6, HB⟩ := hrel
      cases gk with
      | zero => exact absurd HA.out (by simp [spec_Fails.l1])
      | succ k3 =>
       have H := HA.out
       clear HA
       simp only [spec_Fails.l1] at H
       by_cases c12 : 0 ≤ x7_2
       case neg =>
        rw [if_neg c12] at H
        exact absurd H (by simp)
       rw [if_pos c12] at H
       have c12b0 : decide (0 ≤ x7_2) = true := zE c12
       clear c12
       by_cases c13 : x7_2 < (l0.length : Int)
       case neg =>
        rw [if_neg c13] at H
        exact absurd H (by simp)
       rw [if_pos c13] at H
       have c13b0 : decide (x7_2 < (l0.length : Int)) = true := zE c13
       clear c13
       by_cases c14 : x9_3 < ((rd_L1 l0 x7_2).length : Int)
       case pos =>
        rw [if_pos c14] at H
        have c14b0 : decide (x9_3 < ((rd_L1 l0 x7_2).length : Int)) = true := zE c14
        clear c14
        by_cases c15 : 0 ≤ x9_3
        case neg =>
         rw [if_neg c15] at H
         exact absurd H (by simp)
        rw [if_pos c15] at H
        have c15b0 : decide (0 ≤ x9_3) = true := zE c15
        clear c15
        by_cases c16 : 0 ≤ (rd (rd_L1 l0 x7_2) x9_3)
        case neg =>
         rw [if_neg c16] at H
         exact absurd H (by simp)
        rw [if_pos c16] at H
        have c16b0 : decide (0 ≤ (rd (rd_L1 l0 x7_2) x9_3)) = true := zE c16
        clear c16
        by_cases c17 : (rd (rd_L1 l0 x7_2) x9_3) < (l1.length : Int)
        case neg =>
         rw [if_neg c17] at H
         exact absurd H (by simp)
        rw [if_pos c17] at H
        have c17b0 : decide ((rd (rd_L1 l0 x7_2) x9_3) < (l1.length : Int)) = true := zE c17
        clear c17
        have H' := zM H
        clear H
        have p136 : 0 ≤ (x7_2 : Int) := zT (by assumption)
        have q136 : x7_2 < (l0.length : Int) := zT (by assumption)
        obtain ⟨ad136, A136_0, c136_0, e136, hx136_0, hl136_0, hi136_0⟩ := at_L1 HR0.out x7_2 p136 q136
        cases e136
        replace hx136_0 := (HB.out.cell (zW w _ hx136_0)).trans hx136_0
        have HR136_0 := zM hi136_0
        have HC136_0 := zM hl136_0
        clear hi136_0 hl136_0
        replace p136 := eq_true p136
        replace q136 := eq_true q136
        have p137 : 0 ≤ (x7_2 : Int) := zT (by assumption)
        have q137 : x7_2 < (l0.length : Int) := zT (by assumption)
        obtain ⟨ad137, A137_0, c137_0, e137, hx137_0, hl137_0, hi137_0⟩ := at_L1 HR0.out x7_2 p137 q137
        obtain rfl : ad136 = ad137 := (by injection e137)
        replace hx137_0 := (HB.out.cell (zW w _ hx137_0)).trans hx137_0
        have HR137_0 := zM hi137_0
        have HC137_0 := zM hl137_0
        clear hi137_0 hl137_0
        replace p137 := eq_true p137
        replace q137 := eq_true q137
        have ea_ := zI (hx136_0.symm.trans hx137_0)
        injection ea_ with ea_ en_ ec_
        subst ea_
        subst ec_
        clear en_
        have p138 : 0 ≤ (x9_3 : Int) := zT (by assumption)
        have q138 : x9_3 < ((rd_L1 l0 x7_2).length : Int) := zT (by assumption)
        obtain ⟨ad138, e138, hx138_0⟩ := Kd.at_int HR137_0.out x9_3 p138 q138
        cases e138
        replace hx138_0 := (HB.out.cell (zW w _ hx138_0)).trans hx138_0
        replace p138 := eq_true p138
        replace q138 := eq_true q138
        have p139 : 0 ≤ ((rd (rd_L1 l0 x7_2) x9_3) : Int) := zT (by assumption)
        have q139 : (rd (rd_L1 l0 x7_2) x9_3) < (l1.length : Int) := zT (by assumption)
        obtain ⟨ad139, e139, hx139_0⟩ := Kd.at_int HR1.out (rd (rd_L1 l0 x7_2) x9_3) p139 q139
        cases e139
        replace hx139_0 := (HB.out.cell (zW w _ hx139_0)).trans hx139_0
        replace p139 := eq_true p139
        replace q139 := eq_true q139
        go_wp2
        go_roundg k3
        case measure => have := HJ2.out; have := HK2.out; have := HK3.out; omega
        case rel => exact ⟨(wrap64 (x8_3 + (rd l1 (rd (rd_L1 l0 x7_2) x9_3)))), (wrap64 (x9_3 + 1)), (by first | rfl | (simp; done) | (simp [*]; done)), (by first | rfl | (simp; done) | (simp [*]; done)), H', ⟨by have := HJ2.out; have := HK2.out; have := HK3.out; omega⟩, ⟨by (with_reducible repeat (first | apply zRa | apply zRn | apply zRd)); first | exact HO_6.out | (subst_vars; exact HO_6.out)⟩, ⟨by repeat (first | (with_reducible first | exact HB.out | apply zBa | apply zBn | apply zBd) | exact HB.out)⟩⟩
       rw [if_neg c14] at H
       have c14b0 : decide (x9_3 < ((rd_L1 l0 x7_2).length : Int)) = false := decide_eq_false c14
       clear c14
       by_cases c18 : (Int.tmod x8_3 2) = 1
       case neg =>
        rw [if_neg c18] at H
        have c18b0 : ((Int.tmod x8_3 2) == 1) = false := beq_eq_false_iff_ne.mpr c18
        have c18b1 : ((Int.tmod x8_3 2) != 1) = true := bne_iff_ne.mpr c18
        have H' := zM H
        clear H
        have p136 : 0 ≤ (x7_2 : Int) := zT (by assumption)
        have q136 : x7_2 < (l0.length : Int) := zT (by assumption)
        obtain ⟨ad136, A136_0, c136_0, e136, hx136_0, hl136_0, hi136_0⟩ := at_L1 HR0.out x7_2 p136 q136
        cases e136
        replace hx136_0 := (HB.out.cell (zW w _ hx136_0)).trans hx136_0
        have HR136_0 := zM hi136_0
        have HC136_0 := zM hl136_0
        clear hi136_0 hl136_0
        replace p136 := eq_true p136
        replace q136 := eq_true q136
        go_wp2
        go_roundg k3
        case measure => have := HJ2.out; have := HK2.out; have := HK3.out; omega
        case rel => exact ⟨(x6_2), (wrap64 (x7_2 + 1)), (by first | rfl | (simp; done) | (simp [*]; done)), H', ⟨by have := HJ2.out; have := HK2.out; have := HK3.out; omega⟩, ⟨by (with_reducible repeat (first | apply zRa | apply zRn | apply zRd)); first | exact HO_6.out | (subst_vars; exact HO_6.out)⟩, ⟨by repeat (first | (with_reducible first | exact HB.out | apply zBa | apply zBn | apply zBd) | exact HB.out)⟩⟩
       rw [if_pos c18] at H
       have c18b0 : ((Int.tmod x8_3 2) == 1) = true := beq_iff_eq.mpr c18
       have c18b1 : ((Int.tmod x8_3 2) != 1) = false := bne_eq_false_iff_eq.mpr c18
       clear c18
       by_cases c19 : x6_2.length < 17592186044416
       case neg =>
        rw [if_neg c19] at H
        exact absurd H (by simp)
       rw [if_pos c19] at H
       have LMc19 := zM c19
       clear c19
       obtain ⟨y140, hy140⟩ : ∃ y_ : List Int, y_ = (x6_2 ++ [x7_2]) := ⟨_, rfl⟩
       replace H : (spec_Fails.l0 k3 l0 l1 y140 (wrap64 (x7_2 + 1))) = some (r1, r2) := by first | (rw [hy140]; with_reducible exact H) | (have H2_ := (Option.bind_some _ _).symm.trans H; rw [hy140]; with_reducible exact H2_) | (have H2_ := (Option.bind_some _ _).symm.trans H; with_reducible exact H2_) | with_reducible exact H | (rw [hy140]; exact H) | exact H
       have Ny140 := zM hy140
       clear hy140
       have H' := zM H
       clear H
       have p136 : 0 ≤ (x7_2 : Int) := zT (by assumption)
       have q136 : x7_2 < (l0.length : Int) := zT (by assumption)
       obtain ⟨ad136, A136_0, c136_0, e136, hx136_0, hl136_0, hi136_0⟩ := at_L1 HR0.out x7_2 p136 q136
       cases e136
       replace hx136_0 := (HB.out.cell (zW w _ hx136_0)).trans hx136_0
       have HR136_0 := zM hi136_0
       have HC136_0 := zM hl136_0
       clear hi136_0 hl136_0
       replace p136 := eq_true p136
       replace q136 := eq_true q136
       go_wp2_with (first | ((with_reducible refine gate_builtin (b := .append) (xs := #[.tmp 52, .tmp 54]) rfl ?_); (try (refine gate_guard (by rfl) ?_; dsimp only)); at_builtin; refine Kd.R_append (Kd.int .i64) (w0 := w) w.heap.size rfl (.tmp 52) (.tmp 54) 23 3 (.int .i64 0) 8 rfl Try.underlying23 info3 rfl (by decide) (by omega) u6 x6_2 x7_2 [.int .i64 x7_2] (fun _ => True) (fun _ => False) rfl rfl ?aP (fun _ hk => hk.elim) ?aF ?aO ?aB ?aS ?aL ?_; (case aP => exact rfl); (case aB => exact (by repeat (first | (with_reducible first | exact HB.out | apply zBa | apply zBn | apply zBd) | exact HB.out))); (case aF => exact (fun _ _ => trivial)); (case aO => exact (by (with_reducible repeat (first | apply zRa | apply zRn | apply zRd)); first | exact HO_6.out | (subst_vars; exact HO_6.out))); (case aS => exact (below_size (by repeat (first | (with_reducible first | exact HB.out | apply zBa | apply zBn | apply zBd) | exact HB.out)))); (case aL => have := LMc19.out; omega); intro v141 w20 ho hb hg hat; (first | rw [← Ny140.out] at ho | (simp only [Int.reduceToNat] at ho; rw [← Ny140.out] at ho)); have n0_ := zM (hb); have n1_ := zM (ho); clear HB; clear HO_6; have HB := n0_; have HO142 := n1_; clear n0_ n1_; clear ho hb hg hat))
       go_roundg k3
       case measure => have := HJ2.out; have := HK2.out; have := HK3.out; omega
       case rel => exact ⟨(y140), (wrap64 (x7_2 + 1)), (by first | rfl | (simp; done) | (simp [*]; done)), H', ⟨by have := HJ2.out; have := HK2.out; have := HK3.out; omega⟩, ⟨by (with_reducible repeat (first | apply zRa | apply zRn | apply zRd)); first | exact HO142.out | (subst_vars; exact HO142.out)⟩, ⟨by repeat (first | (with_reducible first | exact HB.out | apply zBa | apply zBn | apply zBd) | exact HB.out)⟩⟩

end Go.Proofs.Ytpphjbogijjnpaa.PFnParities
