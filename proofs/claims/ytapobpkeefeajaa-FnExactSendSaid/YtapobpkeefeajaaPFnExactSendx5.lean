-- Written by a turned copy of the print (see the notes of this repo): plain functions and their walks. Lean checks it.
import Derived.Test.YtapobpkeefeajaaPFnExactSendx0
import Derived.Test.YtapobpkeefeajaaPFnExactSendx1
import Derived.Test.YtapobpkeefeajaaPFnExactSendx3
import Derived.Test.YtapobpkeefeajaaPFnExactSendx4
namespace Go.Proofs.Ytapobpkeefeajaa.PFnExactSend
open Go.RowKit Go.Proofs.YtapobpkeefeajaaW.PrintWords Go.Proofs.YtapobpkeefeajaaW.PrintLast Go.Proofs.YtapobpkeefeajaaW.PrintMore
attribute [local go_sem] max2_int min2_int max_two min_two max_three min_three max_four min_four   -- for this text's walks alone
set_option linter.unusedVariables false
set_option linter.unusedSimpArgs false

/-! ### spec_Map: function 35 -/
mutual
def spec_Map.j0 : Nat → Int → List Int → List (S52) → Bool → Option ((List (S52)) × Bool)
 | 0, _, _, _, _ => none
 | k + 1, x0, x1, x6, x18 => if x18 = true then (some (x6, false)) else ((some (([] : List Int) : List Int)).bind fun y216 => (if y216.length + x1.length < 17592186044416 then (spec_Map.l0 k x0 x6 (y216 ++ x1)) else (none)))
def spec_Map.l0 : Nat → Int → List (S52) → List Int → Option ((List (S52)) × Bool)
 | 0, _, _, _ => none
 | k + 1, x0, x6, x7 => if x0 = 0 then (none) else (if ((x7.length : Int) % x0) = 0 then (spec_Map.l1 k x0 x6 x7 (wrap64 (Int.tdiv x0 2)) 0) else (if x7.length < 17592186044416 then (spec_Map.l0 k x0 x6 (x7 ++ [0])) else (none)))
def spec_Map.l1 : Nat → Int → List (S52) → List Int → Int → Int → Option ((List (S52)) × Bool)
 | 0, _, _, _, _, _ => none
 | k + 1, x0, x6, x7, x8, x9 => if x9 < (x7.length : Int) then (if 0 ≤ x9 then (if x9 ≤ (wrap64 (x9 + x8)) then (if (wrap64 (x9 + x8)) ≤ (x7.length : Int) then ((spec_l13Level.f k ((x7.take ((wrap64 (x9 + x8)) : Int).toNat).drop (x9 : Int).toNat)).bind fun t229 => (if 0 ≤ (wrap64 (x9 + x8)) then (if (wrap64 (x9 + x8)) ≤ (wrap64 (x9 + x0)) then (if (wrap64 (x9 + x0)) ≤ (x7.length : Int) then ((spec_l13Level.f k ((x7.take ((wrap64 (x9 + x0)) : Int).toNat).drop ((wrap64 (x9 + x8)) : Int).toNat)).bind fun t234 => (if x6.length < 8796093022208 then (spec_Map.l1 k x0 (x6 ++ [(⟨t229, t234⟩ : S52)]) x7 x8 (wrap64 (x9 + x0))) else (none))) else (none)) else (none)) else (none))) else (none)) else (none)) else (none)) else (some (x6, true))
end
def spec_Map.f (k : Nat) (a0 : Int) (l1 : List Int) : Option ((List (S52)) × Bool) := (some (([] : List (S52)) : List (S52))).bind fun y211 => ((spec_BitsOk.f k l1).bind fun t214 => (if t214 = true then ((spec_l13Width.f a0).bind fun t215 => (spec_Map.j0 k a0 l1 y211 (!t215))) else (spec_Map.j0 k a0 l1 y211 true)))
theorem spec_Map.mono_l : ∀ k, (∀ y0 y1 y2 y3, LeO (spec_Map.j0 k y0 y1 y2 y3) (spec_Map.j0 (k + 1) y0 y1 y2 y3)) ∧ (∀ y0 y1 y2, LeO (spec_Map.l0 k y0 y1 y2) (spec_Map.l0 (k + 1) y0 y1 y2)) ∧ (∀ y0 y1 y2 y3 y4, LeO (spec_Map.l1 k y0 y1 y2 y3 y4) (spec_Map.l1 (k + 1) y0 y1 y2 y3 y4))
 | 0 => ⟨fun _ _ _ _ r h => by simp [spec_Map.j0] at h, fun _ _ _ r h => by simp [spec_Map.l0] at h, fun _ _ _ _ _ r h => by simp [spec_Map.l1] at h⟩
 | k + 1 => by
  obtain ⟨ih0, ih1, ih2⟩ := spec_Map.mono_l k
  refine ⟨?_, ?_, ?_⟩
  ·intro y0 y1 y2 y3
   unfold spec_Map.j0
   repeat' first
   | (with_reducible exact ih0 _ _ _ _)
   | (with_reducible exact ih1 _ _ _)
   | (with_reducible exact ih2 _ _ _ _ _)
   | (with_reducible exact spec_BitsOk.mono _ _)
   | (with_reducible exact spec_l13Level.mono _ _)
   | (with_reducible exact LeO.refl _)
   | (with_reducible exact LeO.none _)
   | (with_reducible refine LeO.ite ?_ ?_)
   | (with_reducible refine LeO.bind ?_ (fun _ => ?_))
   | exact ih0 _ _ _ _
   | exact ih1 _ _ _
   | exact ih2 _ _ _ _ _
   | exact spec_BitsOk.mono _ _
   | exact spec_l13Level.mono _ _
   | exact LeO.none _
   | refine LeO.ite ?_ ?_
   | refine LeO.bind ?_ (fun _ => ?_)
  ·intro y0 y1 y2
   unfold spec_Map.l0
   repeat' first
   | (with_reducible exact ih0 _ _ _ _)
   | (with_reducible exact ih1 _ _ _)
   | (with_reducible exact ih2 _ _ _ _ _)
   | (with_reducible exact spec_BitsOk.mono _ _)
   | (with_reducible exact spec_l13Level.mono _ _)
   | (with_reducible exact LeO.refl _)
   | (with_reducible exact LeO.none _)
   | (with_reducible refine LeO.ite ?_ ?_)
   | (with_reducible refine LeO.bind ?_ (fun _ => ?_))
   | exact ih0 _ _ _ _
   | exact ih1 _ _ _
   | exact ih2 _ _ _ _ _
   | exact spec_BitsOk.mono _ _
   | exact spec_l13Level.mono _ _
   | exact LeO.none _
   | refine LeO.ite ?_ ?_
   | refine LeO.bind ?_ (fun _ => ?_)
  ·intro y0 y1 y2 y3 y4
   unfold spec_Map.l1
   repeat' first
   | (with_reducible exact ih0 _ _ _ _)
   | (with_reducible exact ih1 _ _ _)
   | (with_reducible exact ih2 _ _ _ _ _)
   | (with_reducible exact spec_BitsOk.mono _ _)
   | (with_reducible exact spec_l13Level.mono _ _)
   | (with_reducible exact LeO.refl _)
   | (with_reducible exact LeO.none _)
   | (with_reducible refine LeO.ite ?_ ?_)
   | (with_reducible refine LeO.bind ?_ (fun _ => ?_))
   | exact ih0 _ _ _ _
   | exact ih1 _ _ _
   | exact ih2 _ _ _ _ _
   | exact spec_BitsOk.mono _ _
   | exact spec_l13Level.mono _ _
   | exact LeO.none _
   | refine LeO.ite ?_ ?_
   | refine LeO.bind ?_ (fun _ => ?_)
theorem spec_Map.mono : ∀ a0 a1 k, LeO (spec_Map.f k a0 a1) (spec_Map.f (k + 1) a0 a1) := by
 intro a0 a1 k
 obtain ⟨ih0, ih1, ih2⟩ := spec_Map.mono_l k
 unfold spec_Map.f
 repeat' first
  | (with_reducible exact ih0 _ _ _ _)
  | (with_reducible exact ih1 _ _ _)
  | (with_reducible exact ih2 _ _ _ _ _)
  | (with_reducible exact spec_BitsOk.mono _ _)
  | (with_reducible exact spec_l13Level.mono _ _)
  | (with_reducible exact LeO.refl _)
  | (with_reducible exact LeO.none _)
  | (with_reducible refine LeO.ite ?_ ?_)
  | (with_reducible refine LeO.bind ?_ (fun _ => ?_))
  | exact ih0 _ _ _ _
  | exact ih1 _ _ _
  | exact ih2 _ _ _ _ _
  | exact spec_BitsOk.mono _ _
  | exact spec_l13Level.mono _ _
  | exact LeO.none _
  | refine LeO.ite ?_ ?_
  | refine LeO.bind ?_ (fun _ => ?_)
def spec_Map.T11 : Bool × List (List Nat × List Nat) := (true, [([], []), ([], []), ([], []), ([], []), ([], []), ([3, 4], [3, 4]), ([1, 2, 5], [1, 2, 5]), ([6], [6]), ([], []), ([], []), ([], []), ([9, 10], [9, 10]), ([], []), ([], []), ([12, 13], [12, 13]), ([8, 11, 14], [8, 11, 14]), ([15, 7], [15]), ([7, 16], [7, 16]), ([17], [17]), ([0, 18, 16], [0, 18]), ([19, 19, 0, 1, 2, 3, 4, 5, 6, 7, 8, 9, 10, 11, 12, 13, 14, 15, 16, 17, 18, 19], [0, 19])])
def spec_Map.B11 : List Nat := [0, 0, 0, 0, 0, 24, 62, 126, 0, 0, 0, 1536, 0, 0, 12288, 32512, 65534, 131070, 262142, 524287, 1048575]
theorem spec_Map.tab11 : rtab .any (opsOf Try.f35 11) = spec_Map.T11 := by kernel_rfl
theorem spec_Map.bits11 : waitsOk spec_Map.T11.2 spec_Map.B11 = true := by kernel_rfl
set_option maxHeartbeats 8000000 in
set_option maxRecDepth 100000 in
theorem spec_Map.calls (k : Nat) (a0 : Int) (A1 : Option Addr) (c1 : Nat) (l1 : List Int) (r1 : List (S52)) (r2 : Bool) (w : World) (hr1 : Kd.C (Kd.int .i64) w A1 l1.length l1) (hc1 : l1.length ≤ c1) (h : spec_Map.f k a0 l1 = some (r1, r2)) :
 Calls Try.prog 35 #[.int .i64 a0, .slice A1 l1.length c1] w fun e w' => ∃ v0_ : Value, e = .returned (.tuple #[v0_, .bool r2]) ∧ Kd.R k52 52 w' w.heap.size (fun _ => True) v0_ r1 ∧ Below w.heap.size w w' := by
 have hu52 := Try.underlying52
 have HR1 := Aside0.mk hr1
 have HC1 := Aside0.mk hc1
 clear hr1 hc1
 have HB := Aside0.mk (Below.refl w.heap.size w)
 have H : ((some (([] : List (S52)) : List (S52))).bind fun y211 => ((spec_BitsOk.f k l1).bind fun t214 => (if t214 = true then ((spec_l13Width.f a0).bind fun t215 => (spec_Map.j0 k a0 l1 y211 (!t215))) else (spec_Map.j0 k a0 l1 y211 true)))) = some (r1, r2) := h
 clear h
 obtain ⟨y211, hy211⟩ : ∃ y_ : List (S52), y_ = (([] : List (S52))) := ⟨_, rfl⟩
 replace H : ((spec_BitsOk.f k l1).bind fun t214 => (if t214 = true then ((spec_l13Width.f a0).bind fun t215 => (spec_Map.j0 k a0 l1 y211 (!t215))) else (spec_Map.j0 k a0 l1 y211 true))) = some (r1, r2) := by first | (rw [hy211]; with_reducible exact H) | (have H2_ := (Option.bind_some _ _).symm.trans H; rw [hy211]; with_reducible exact H2_) | (have H2_ := (Option.bind_some _ _).symm.trans H; with_reducible exact H2_) | with_reducible exact H | (rw [hy211]; exact H) | exact H
 have Ny211 := Aside0.mk hy211
 clear hy211
 have HC3 := Aside0.mk H
 clear H
 go_enter Try.func35, Try.ntmps35
 go_upto_region 2 with (first | ((with_reducible refine gate_dst (N := 10) rfl ?_); refine Kd.R_lit k52 _ 52 ?hg (N := 10) ?hd (xs := ([] : List (S52))) (inner := []) (ok := fun _ => True) (okp := fun _ => True) ?hr ?hp (fun _ hk => hk) trivial (Below.refl _ _) (Nat.le_refl _) (by simp) ?_; (case hd => rfl); (case hg => rfl); (case hr => first | (go_simp; done) | (go_simp; rfl)); (case hp => exact (Reps.none _ _)); intro v212 w4 ho5 hb hg_ hnew_; clear hg_ hnew_; (first | rw [← Ny211.out] at ho5 | (simp only [Int.reduceToNat] at ho5; rw [← Ny211.out] at ho5)); have n0_ := Aside0.mk (Kd.R_lower ho5 (below_size (by repeat (first | (with_reducible first | exact HB.out | apply zBa | apply zBn | apply zBd) | exact HB.out)))); have n1_ := Aside0.mk (below_step (by repeat (first | (with_reducible first | exact HB.out | apply zBa | apply zBn | apply zBd) | exact HB.out)) hb); clear HB; have HO213 := n0_; have HB := n1_; clear n0_ n1_; clear hb ho5))
 (try simp only [Act.put, List.setIfInBounds_toArray, List.set_cons_zero, List.set_cons_succ])
 go_cut [18] (fun v18 wc => ∃ (kq : Nat) (x18_2 : Bool), v18 = .bool x18_2 ∧ Aside0 (spec_Map.j0 kq a0 l1 y211 x18_2 = some (r1, r2)) ∧ Aside0 (kq ≤ k) ∧ Aside0 (Kd.R k52 52 wc w.heap.size (fun _ => True) v212 y211) ∧ Aside0 (Below w.heap.size w wc))
 case first =>
  have H := HC3.out
  clear HC3
  replace H := Option.bind_eq_some_iff.mp H
  obtain ⟨t214, A60, H⟩ := H
  replace H : (if t214 = true then ((spec_l13Width.f a0).bind fun t215 => (spec_Map.j0 k a0 l1 y211 (!t215))) else (spec_Map.j0 k a0 l1 y211 true)) = some (r1, r2) := H
  have A6 := Aside0.mk A60
  clear A60
  by_cases c7 : t214 = true
  case neg =>
   replace c7 := Bool.eq_false_iff.mpr c7
   subst c7
   have H1 : (spec_Map.j0 k a0 l1 y211 true) = some (r1, r2) := by rw [if_neg (show ¬ (false = true) by decide)] at H; exact H
   clear H
   have H := H1
   clear H1
   have H' := Aside0.mk H
   clear H
   go_wp2_with (first | ((with_reducible refine gate_callee (f := 80) rfl ?_); refine goesL_ (some 12) rfl rfl Try.func80 (by kernel_rfl) rfl #[.slice A1 l1.length c1] rfl (by (try simp only [List.map_toArray, List.map_cons, List.map_nil]); first | done | rfl | (simp only [List.length_drop, List.length_take]; rfl)) ?_; (with_reducible refine (spec_BitsOk.calls k _ _ l1 false _ ?side1 ?side2 A6.out).mono ?_); (case side1 => repeat (first | exact (Kd.C_below HR1.out HB.out) | (with_reducible first | refine zCa ?_ _ | refine zCn ?_ _ | refine zCd ?_))); (case side2 => exact HC1.out); rintro e w' ⟨rfl, ⟨nd, rfl⟩⟩; refine ⟨_, rfl, ?_⟩))
   go_meet
   case rel => exact ⟨_, (true), (by first | rfl | (simp; done) | (simp [*]; done)), H', ⟨by first | omega | exact Nat.le_refl _⟩, ⟨by (with_reducible repeat (first | apply zRa | apply zRn | apply zRd)); first | exact HO213.out | (subst_vars; exact HO213.out)⟩, ⟨by repeat (first | (with_reducible first | exact HB.out | apply zBa | apply zBn | apply zBd) | exact HB.out)⟩⟩
  subst c7
  have H1 : ((spec_l13Width.f a0).bind fun t215 => (spec_Map.j0 k a0 l1 y211 (!t215))) = some (r1, r2) := by rw [if_pos rfl] at H; exact H
  clear H
  have H := H1
  clear H1
  replace H := Option.bind_eq_some_iff.mp H
  obtain ⟨t215, A80, H⟩ := H
  replace H : (spec_Map.j0 k a0 l1 y211 (!t215)) = some (r1, r2) := H
  have A8 := Aside0.mk A80
  clear A80
  have H' := Aside0.mk H
  clear H
  go_wp2_with (first | ((with_reducible refine gate_callee (f := 80) rfl ?_); refine goesL_ (some 12) rfl rfl Try.func80 (by kernel_rfl) rfl #[.slice A1 l1.length c1] rfl (by (try simp only [List.map_toArray, List.map_cons, List.map_nil]); first | done | rfl | (simp only [List.length_drop, List.length_take]; rfl)) ?_; (with_reducible refine (spec_BitsOk.calls k _ _ l1 true _ ?side1 ?side2 A6.out).mono ?_); (case side1 => repeat (first | exact (Kd.C_below HR1.out HB.out) | (with_reducible first | refine zCa ?_ _ | refine zCn ?_ _ | refine zCd ?_))); (case side2 => exact HC1.out); rintro e w' ⟨rfl, ⟨nd, rfl⟩⟩; refine ⟨_, rfl, ?_⟩) | (go_at_call 75; (with_reducible refine (spec_l13Width.calls a0 t215 _ A8.out).mono ?_); rintro e w' ⟨rfl, ⟨nd, rfl⟩⟩))
  go_meet
  case rel => exact ⟨_, (!t215), (by first | rfl | (simp; done) | (simp [*]; done)), H', ⟨by first | omega | exact Nat.le_refl _⟩, ⟨by (with_reducible repeat (first | apply zRa | apply zRn | apply zRd)); first | exact HO213.out | (subst_vars; exact HO213.out)⟩, ⟨by repeat (first | (with_reducible first | exact HB.out | apply zBa | apply zBn | apply zBd) | exact HB.out)⟩⟩
 case rest =>
  clear HC3
  try clear c1
  try clear p2
  try clear c3
  try clear c7
  try clear c8
  obtain ⟨kq, x18_2, rfl, HA, HJ2, HO_6, HB⟩ := hcut
  cases kq with
  | zero => exact absurd HA.out (by simp [spec_Map.j0])
  | succ kj2 =>
   have H := HA.out
   clear HA
   simp only [spec_Map.j0] at H
   by_cases c9 : x18_2 = true
   case pos =>
    subst c9
    have H1 : (some (y211, false)) = some (r1, r2) := by rw [if_pos rfl] at H; exact H
    clear H
    have H := H1
    clear H1
    simp only [Option.some.injEq, Prod.mk.injEq] at H
    obtain ⟨rfl, rfl⟩ := H
    go_wp2
    go_ret2
    exact ⟨_, by first | rfl | (simp [errW_none, errW_some] <;> rfl) | (simp [*, errW_none, errW_some] <;> rfl), by (with_reducible repeat (first | apply zRa | apply zRn | apply zRd)); first | exact HO_6.out | (subst_vars; exact HO_6.out), by repeat (first | (with_reducible first | exact HB.out | apply zBa | apply zBn | apply zBd) | exact HB.out)⟩
   replace c9 := Bool.eq_false_iff.mpr c9
   subst c9
   have H1 : ((some (([] : List Int) : List Int)).bind fun y216 => (if y216.length + l1.length < 17592186044416 then (spec_Map.l0 kj2 a0 y211 (y216 ++ l1)) else (none))) = some (r1, r2) := by rw [if_neg (show ¬ (false = true) by decide)] at H; exact H
   clear H
   have H := H1
   clear H1
   obtain ⟨y216, hy216⟩ : ∃ y_ : List Int, y_ = (([] : List Int)) := ⟨_, rfl⟩
   replace H : (if y216.length + l1.length < 17592186044416 then (spec_Map.l0 kj2 a0 y211 (y216 ++ l1)) else (none)) = some (r1, r2) := by first | (rw [hy216]; with_reducible exact H) | (have H2_ := (Option.bind_some _ _).symm.trans H; rw [hy216]; with_reducible exact H2_) | (have H2_ := (Option.bind_some _ _).symm.trans H; with_reducible exact H2_) | with_reducible exact H | (rw [hy216]; exact H) | exact H
   have Ny216 := Aside0.mk hy216
   clear hy216
   by_cases c10 : y216.length + l1.length < 17592186044416
   case neg =>
    rw [if_neg c10] at H
    exact absurd H (by simp)
   rw [if_pos c10] at H
   have LMc10 := Aside0.mk c10
   clear c10
   obtain ⟨y219, hy219⟩ : ∃ y_ : List Int, y_ = (y216 ++ l1) := ⟨_, rfl⟩
   replace H : (spec_Map.l0 kj2 a0 y211 y219) = some (r1, r2) := by first | (rw [hy219]; with_reducible exact H) | (have H2_ := (Option.bind_some _ _).symm.trans H; rw [hy219]; with_reducible exact H2_) | (have H2_ := (Option.bind_some _ _).symm.trans H; with_reducible exact H2_) | with_reducible exact H | (rw [hy219]; exact H) | exact H
   have Ny219 := Aside0.mk hy219
   clear hy219
   have H' := Aside0.mk H
   clear H
   go_wp2_with (first | ((with_reducible refine gate_dst (N := 20) rfl ?_); refine Kd.R_lit (Kd.int .i64) _ 3 ?hg (N := 20) ?hd (xs := ([] : List Int)) (inner := []) (ok := fun _ => True) (okp := fun _ => True) ?hr ?hp (fun _ hk => hk) trivial (Below.refl _ _) (Nat.le_refl _) (by simp) ?_; (case hd => rfl); (case hg => rfl); (case hr => first | (go_simp; done) | (go_simp; rfl)); (case hp => exact (Reps.none _ _)); intro v217 w11 ho12 hb hg_ hnew_; clear hg_ hnew_; (first | rw [← Ny216.out] at ho12 | (simp only [Int.reduceToNat] at ho12; rw [← Ny216.out] at ho12)); have n0_ := Aside0.mk (Kd.R_below (by (with_reducible repeat (first | apply zRa | apply zRn | apply zRd)); first | exact HO_6.out | (subst_vars; exact HO_6.out)) hb); have n1_ := Aside0.mk (Kd.R_lower ho12 (below_size (by repeat (first | (with_reducible first | exact HB.out | apply zBa | apply zBn | apply zBd) | exact HB.out)))); have n2_ := Aside0.mk (below_step (by repeat (first | (with_reducible first | exact HB.out | apply zBa | apply zBn | apply zBd) | exact HB.out)) hb); clear HO_6; clear HB; have HO_6 := n0_; have HO218 := n1_; have HB := n2_; clear n0_ n1_ n2_; clear hb ho12) | ((with_reducible refine gate_builtin (b := .append) (xs := #[.tmp 20, .tmp 21]) rfl ?_); at_builtin; refine Kd.R_append_rows (Kd.int .i64) (w0 := w) w.heap.size rfl (.tmp 20) (.tmp 21) 46 3 (.int .i64 0) 8 rfl Try.underlying46 info3 rfl (by decide) (by omega) v217 y216 l1 _ _ _ (fun _ => True) (fun _ => False) rfl rfl ?aO ?aR (fun _ _ h => h) (fun _ h => h.elim) ?aF ?aB ?aS ?aL ?_; (case aR => repeat (first | exact (Kd.C_below HR1.out HB.out) | (with_reducible first | refine zCa ?_ _ | refine zCn ?_ _ | refine zCd ?_))); (case aB => exact (by repeat (first | (with_reducible first | exact HB.out | apply zBa | apply zBn | apply zBd) | exact HB.out))); (case aF => exact (fun _ _ => trivial)); (case aO => exact (by (with_reducible repeat (first | apply zRa | apply zRn | apply zRd)); first | exact HO218.out | (subst_vars; exact HO218.out))); (case aS => exact (below_size (by repeat (first | (with_reducible first | exact HB.out | apply zBa | apply zBn | apply zBd) | exact HB.out)))); (case aL => have := LMc10.out; omega); intro v220 w13 ho hb hg hat; (first | rw [← Ny219.out] at ho | (simp only [Int.reduceToNat] at ho; rw [← Ny219.out] at ho)); have n0_ := Aside0.mk (Kd.R_over' (by (with_reducible repeat (first | apply zRa | apply zRn | apply zRd)); first | exact HO_6.out | (subst_vars; exact HO_6.out)) (Kd.R_typed (by (with_reducible repeat (first | apply zRa | apply zRn | apply zRd)); first | exact HO218.out | (subst_vars; exact HO218.out))) (by decide) hg); have n1_ := Aside0.mk (hb); have n2_ := Aside0.mk (ho); clear HO_6; clear HB; clear HO218; have HO_6 := n0_; have HB := n1_; have HO221 := n2_; clear n0_ n1_ n2_; clear ho hb hg hat))
   (try simp only [Act.put, List.setIfInBounds_toArray, List.set_cons_zero, List.set_cons_succ])
   go_loopg [7] kj2 (fun kq v7 w' => ∃ (x7_2 : List Int), Aside0 (spec_Map.l0 kq a0 y211 x7_2 = some (r1, r2)) ∧ Aside0 (kq ≤ kj2) ∧ Aside0 (Kd.R k52 52 w' w.heap.size (fun _ => True) v212 y211) ∧ Aside0 (Kd.R (Kd.int .i64) 3 w' w.heap.size (fun _ => True) v7 x7_2) ∧ Aside0 (Below w.heap.size w w'))
   case atStart => exact ⟨(y219), H', ⟨Nat.le_refl _⟩, ⟨by (with_reducible repeat (first | apply zRa | apply zRn | apply zRd)); first | exact HO_6.out | (subst_vars; exact HO_6.out)⟩, ⟨by (with_reducible repeat (first | apply zRa | apply zRn | apply zRd)); first | exact HO221.out | (subst_vars; exact HO221.out)⟩, ⟨by repeat (first | (with_reducible first | exact HB.out | apply zBa | apply zBn | apply zBd) | exact HB.out)⟩⟩
   case round =>
    clear H'
    try clear c1
    try clear p2
    try clear c3
    try clear c7
    try clear c8
    try clear c9
    try clear c10
    try clear p2
    obtain ⟨x7_2, HA, HK2, HO_6, HO_7, HB⟩ := hrel
    cases gk with
    | zero => exact absurd HA.out (by simp [spec_Map.l0])
    | succ k2 =>
     have H := HA.out
     clear HA
     simp only [spec_Map.l0] at H
     by_cases c14 : a0 = 0
     case pos =>
      rw [if_pos c14] at H
      exact absurd H (by simp)
     rw [if_neg c14] at H
     have c14b0 : (a0 == 0) = false := beq_eq_false_iff_ne.mpr c14
     have c14b1 : (a0 != 0) = true := bne_iff_ne.mpr c14
     by_cases c15 : ((x7_2.length : Int) % a0) = 0
     case neg =>
      rw [if_neg c15] at H
      have c15b0 : (((x7_2.length : Int) % a0) == 0) = false := beq_eq_false_iff_ne.mpr c15
      have c15b1 : (((x7_2.length : Int) % a0) != 0) = true := bne_iff_ne.mpr c15
      by_cases c32 : x7_2.length < 17592186044416
      case neg =>
       rw [if_neg c32] at H
       exact absurd H (by simp)
      rw [if_pos c32] at H
      have LMc32 := Aside0.mk c32
      clear c32
      obtain ⟨y222, hy222⟩ : ∃ y_ : List Int, y_ = (x7_2 ++ [0]) := ⟨_, rfl⟩
      replace H : (spec_Map.l0 k2 a0 y211 y222) = some (r1, r2) := by first | (rw [hy222]; with_reducible exact H) | (have H2_ := (Option.bind_some _ _).symm.trans H; rw [hy222]; with_reducible exact H2_) | (have H2_ := (Option.bind_some _ _).symm.trans H; with_reducible exact H2_) | with_reducible exact H | (rw [hy222]; exact H) | exact H
      have Ny222 := Aside0.mk hy222
      clear hy222
      have H' := Aside0.mk H
      clear H
      obtain ⟨Ao33, co33, eo33⟩ := Kd.R_slice HO_7.out
      subst eo33
      go_wp2_with (first | ((with_reducible refine gate_builtin (b := .append) (xs := #[.tmp 28, .tmp 29]) rfl ?_); at_builtin; refine Kd.R_append (Kd.int .i64) (w0 := w) w.heap.size rfl (.tmp 28) (.tmp 29) 46 3 (.int .i64 0) 8 rfl Try.underlying46 info3 rfl (by decide) (by omega) (.slice Ao33 x7_2.length co33) x7_2 0 [.int .i64 0] (fun _ => True) (fun _ => False) rfl rfl ?aP (fun _ hk => hk.elim) ?aF ?aO ?aB ?aS ?aL ?_; (case aP => exact rfl); (case aB => exact (by repeat (first | (with_reducible first | exact HB.out | apply zBa | apply zBn | apply zBd) | exact HB.out))); (case aF => exact (fun _ _ => trivial)); (case aO => exact (by (with_reducible repeat (first | apply zRa | apply zRn | apply zRd)); first | exact HO_7.out | (subst_vars; exact HO_7.out))); (case aS => exact (below_size (by repeat (first | (with_reducible first | exact HB.out | apply zBa | apply zBn | apply zBd) | exact HB.out)))); (case aL => have := LMc32.out; omega); intro v223 w34 ho hb hg hat; (first | rw [← Ny222.out] at ho | (simp only [Int.reduceToNat] at ho; rw [← Ny222.out] at ho)); have n0_ := Aside0.mk (Kd.R_over' (by (with_reducible repeat (first | apply zRa | apply zRn | apply zRd)); first | exact HO_6.out | (subst_vars; exact HO_6.out)) (Kd.R_typed (by (with_reducible repeat (first | apply zRa | apply zRn | apply zRd)); first | exact HO_7.out | (subst_vars; exact HO_7.out))) (by decide) hg); have n1_ := Aside0.mk (hb); have n2_ := Aside0.mk (ho); clear HO_6; clear HB; clear HO_7; have HO_6 := n0_; have HB := n1_; have HO224 := n2_; clear n0_ n1_ n2_; clear ho hb hg hat))
      go_roundg k2
      case measure => have := HJ2.out; have := HK2.out; omega
      case rel => exact ⟨(y222), H', ⟨by have := HJ2.out; have := HK2.out; omega⟩, ⟨by (with_reducible repeat (first | apply zRa | apply zRn | apply zRd)); first | exact HO_6.out | (subst_vars; exact HO_6.out)⟩, ⟨by (with_reducible repeat (first | apply zRa | apply zRn | apply zRd)); first | exact HO224.out | (subst_vars; exact HO224.out)⟩, ⟨by repeat (first | (with_reducible first | exact HB.out | apply zBa | apply zBn | apply zBd) | exact HB.out)⟩⟩
     rw [if_pos c15] at H
     have c15b0 : (((x7_2.length : Int) % a0) == 0) = true := beq_iff_eq.mpr c15
     have c15b1 : (((x7_2.length : Int) % a0) != 0) = false := bne_eq_false_iff_eq.mpr c15
     clear c15
     have H' := Aside0.mk H
     clear H
     obtain ⟨Ao16, co16, eo16⟩ := Kd.R_slice HO_7.out
     subst eo16
     go_wp2
     (try simp only [Act.put, List.setIfInBounds_toArray, List.set_cons_zero, List.set_cons_succ])
     go_loopg [6, 9] k2 (fun kq v6 v9 w' => ∃ (x6_3 : List (S52)) (x9_3 : Int), v9 = .int .i64 x9_3 ∧ Aside0 (spec_Map.l1 kq a0 x6_3 x7_2 (wrap64 (Int.tdiv a0 2)) x9_3 = some (r1, r2)) ∧ Aside0 (kq ≤ k2) ∧ Aside0 (Kd.R k52 52 w' w.heap.size (fun _ => True) v6 x6_3) ∧ Aside0 (Kd.R (Kd.int .i64) 3 w' w.heap.size (fun _ => True) (.slice Ao16 x7_2.length co16) x7_2) ∧ Aside0 (Below w.heap.size w w'))
     case atStart => exact ⟨(y211), (0), (by first | rfl | (simp; done) | (simp [*]; done)), H', ⟨Nat.le_refl _⟩, ⟨by (with_reducible repeat (first | apply zRa | apply zRn | apply zRd)); first | exact HO_6.out | (subst_vars; exact HO_6.out)⟩, ⟨by (with_reducible repeat (first | apply zRa | apply zRn | apply zRd)); first | exact HO_7.out | (subst_vars; exact HO_7.out)⟩, ⟨by repeat (first | (with_reducible first | exact HB.out | apply zBa | apply zBn | apply zBd) | exact HB.out)⟩⟩
     case round =>
      clear H'
      try clear c1
      try clear p2
      try clear c3
      try clear p6
      try clear c7
      try clear c8
      try clear c9
      try clear c10
      try clear c14
      try clear c14b0
      try clear c14b1
      try clear c15
      try clear c15b0
      try clear c15b1
      try clear p2
      obtain ⟨x6_3, x9_3, rfl, HA, HK3, HO_6, HO_7, HB⟩ := hrel
      cases gk with
      | zero => exact absurd HA.out (by simp [spec_Map.l1])
      | succ k3 =>
       have H := HA.out
       clear HA
       simp only [spec_Map.l1] at H
       by_cases c17 : x9_3 < (x7_2.length : Int)
       case neg =>
        rw [if_neg c17] at H
        have c17b0 : decide (x9_3 < (x7_2.length : Int)) = false := decide_eq_false c17
        clear c17
        simp only [Option.some.injEq, Prod.mk.injEq] at H
        obtain ⟨rfl, rfl⟩ := H
        go_wp2
        go_ret2
        exact ⟨_, by first | rfl | (simp [errW_none, errW_some] <;> rfl) | (simp [*, errW_none, errW_some] <;> rfl), by (with_reducible repeat (first | apply zRa | apply zRn | apply zRd)); first | exact HO_6.out | (subst_vars; exact HO_6.out), by repeat (first | (with_reducible first | exact HB.out | apply zBa | apply zBn | apply zBd) | exact HB.out)⟩
       rw [if_pos c17] at H
       have c17b0 : decide (x9_3 < (x7_2.length : Int)) = true := zE c17
       clear c17
       by_cases c18 : 0 ≤ x9_3
       case neg =>
        rw [if_neg c18] at H
        exact absurd H (by simp)
       rw [if_pos c18] at H
       have c18b0 := eq_true c18
       have c18b1 : decide (0 ≤ x9_3) = true := zE c18
       clear c18
       by_cases c19 : x9_3 ≤ (wrap64 (x9_3 + (wrap64 (Int.tdiv a0 2))))
       case neg =>
        rw [if_neg c19] at H
        exact absurd H (by simp)
       rw [if_pos c19] at H
       have c19b0 := eq_true c19
       have c19b1 : decide (x9_3 ≤ (wrap64 (x9_3 + (wrap64 (Int.tdiv a0 2))))) = true := zE c19
       by_cases c20 : (wrap64 (x9_3 + (wrap64 (Int.tdiv a0 2)))) ≤ (x7_2.length : Int)
       case neg =>
        rw [if_neg c20] at H
        exact absurd H (by simp)
       rw [if_pos c20] at H
       have c20b0 := eq_true c20
       have c20b1 : decide ((wrap64 (x9_3 + (wrap64 (Int.tdiv a0 2)))) ≤ (x7_2.length : Int)) = true := zE c20
       obtain ⟨y225, hy225⟩ : ∃ y_ : List Int, y_ = ((x7_2.take ((wrap64 (x9_3 + (wrap64 (Int.tdiv a0 2)))) : Int).toNat).drop (x9_3 : Int).toNat) := ⟨_, rfl⟩
       replace H : ((spec_l13Level.f k3 y225).bind fun t229 => (if 0 ≤ (wrap64 (x9_3 + (wrap64 (Int.tdiv a0 2)))) then (if (wrap64 (x9_3 + (wrap64 (Int.tdiv a0 2)))) ≤ (wrap64 (x9_3 + a0)) then (if (wrap64 (x9_3 + a0)) ≤ (x7_2.length : Int) then ((spec_l13Level.f k3 ((x7_2.take ((wrap64 (x9_3 + a0)) : Int).toNat).drop ((wrap64 (x9_3 + (wrap64 (Int.tdiv a0 2)))) : Int).toNat)).bind fun t234 => (if x6_3.length < 8796093022208 then (spec_Map.l1 k3 a0 (x6_3 ++ [(⟨t229, t234⟩ : S52)]) x7_2 (wrap64 (Int.tdiv a0 2)) (wrap64 (x9_3 + a0))) else (none))) else (none)) else (none)) else (none))) = some (r1, r2) := by first | (rw [hy225]; with_reducible exact H) | (have H2_ := (Option.bind_some _ _).symm.trans H; rw [hy225]; with_reducible exact H2_) | (have H2_ := (Option.bind_some _ _).symm.trans H; with_reducible exact H2_) | with_reducible exact H | (rw [hy225]; exact H) | exact H
       have Ny225 := Aside0.mk hy225
       clear hy225
       replace H := Option.bind_eq_some_iff.mp H
       obtain ⟨t229, A210, H⟩ := H
       replace H : (if 0 ≤ (wrap64 (x9_3 + (wrap64 (Int.tdiv a0 2)))) then (if (wrap64 (x9_3 + (wrap64 (Int.tdiv a0 2)))) ≤ (wrap64 (x9_3 + a0)) then (if (wrap64 (x9_3 + a0)) ≤ (x7_2.length : Int) then ((spec_l13Level.f k3 ((x7_2.take ((wrap64 (x9_3 + a0)) : Int).toNat).drop ((wrap64 (x9_3 + (wrap64 (Int.tdiv a0 2)))) : Int).toNat)).bind fun t234 => (if x6_3.length < 8796093022208 then (spec_Map.l1 k3 a0 (x6_3 ++ [(⟨t229, t234⟩ : S52)]) x7_2 (wrap64 (Int.tdiv a0 2)) (wrap64 (x9_3 + a0))) else (none))) else (none)) else (none)) else (none)) = some (r1, r2) := H
       have A21 := Aside0.mk A210
       clear A210
       obtain ⟨ji22, hji22⟩ : ∃ j_ : Int, (wrap64 (x9_3 + (wrap64 (Int.tdiv a0 2)))) = j_ := ⟨_, rfl⟩
       replace H : (if 0 ≤ (ji22) then (if (ji22) ≤ (wrap64 (x9_3 + a0)) then (if (wrap64 (x9_3 + a0)) ≤ (x7_2.length : Int) then ((spec_l13Level.f k3 ((x7_2.take ((wrap64 (x9_3 + a0)) : Int).toNat).drop ((ji22) : Int).toNat)).bind fun t234 => (if x6_3.length < 8796093022208 then (spec_Map.l1 k3 a0 (x6_3 ++ [(⟨t229, t234⟩ : S52)]) x7_2 (wrap64 (Int.tdiv a0 2)) (wrap64 (x9_3 + a0))) else (none))) else (none)) else (none)) else (none)) = some (r1, r2) := by first | (rw [hji22] at H; exact H) | (simp only [hji22] at H ⊢; exact H)
       (try rw [hji22] at c19b0)
       (try rw [hji22] at c19b1)
       (try rw [hji22] at c19)
       (try rw [hji22] at c20b0)
       (try rw [hji22] at c20b1)
       (try rw [hji22] at c20)
       (try rw [hji22] at Ny225)
       (try rw [hji22] at A21)
       have hji22w : (IntKind.i64.wrap (x9_3 + (wrap64 (Int.tdiv a0 2)))) = ji22 := (i64_w _).trans hji22
       by_cases c23 : 0 ≤ (ji22)
       case neg =>
        rw [if_neg c23] at H
        exact absurd H (by simp)
       rw [if_pos c23] at H
       have c23b0 := eq_true c23
       have c23b1 : decide (0 ≤ (ji22)) = true := zE c23
       clear c23
       by_cases c24 : (ji22) ≤ (wrap64 (x9_3 + a0))
       case neg =>
        rw [if_neg c24] at H
        exact absurd H (by simp)
       rw [if_pos c24] at H
       have c24b0 := eq_true c24
       have c24b1 : decide ((ji22) ≤ (wrap64 (x9_3 + a0))) = true := zE c24
       by_cases c25 : (wrap64 (x9_3 + a0)) ≤ (x7_2.length : Int)
       case neg =>
        rw [if_neg c25] at H
        exact absurd H (by simp)
       rw [if_pos c25] at H
       have c25b0 := eq_true c25
       have c25b1 : decide ((wrap64 (x9_3 + a0)) ≤ (x7_2.length : Int)) = true := zE c25
       obtain ⟨y230, hy230⟩ : ∃ y_ : List Int, y_ = ((x7_2.take ((wrap64 (x9_3 + a0)) : Int).toNat).drop ((ji22) : Int).toNat) := ⟨_, rfl⟩
       replace H : ((spec_l13Level.f k3 y230).bind fun t234 => (if x6_3.length < 8796093022208 then (spec_Map.l1 k3 a0 (x6_3 ++ [(⟨t229, t234⟩ : S52)]) x7_2 (wrap64 (Int.tdiv a0 2)) (wrap64 (x9_3 + a0))) else (none))) = some (r1, r2) := by first | (rw [hy230]; with_reducible exact H) | (have H2_ := (Option.bind_some _ _).symm.trans H; rw [hy230]; with_reducible exact H2_) | (have H2_ := (Option.bind_some _ _).symm.trans H; with_reducible exact H2_) | with_reducible exact H | (rw [hy230]; exact H) | exact H
       have Ny230 := Aside0.mk hy230
       clear hy230
       replace H := Option.bind_eq_some_iff.mp H
       obtain ⟨t234, A260, H⟩ := H
       replace H : (if x6_3.length < 8796093022208 then (spec_Map.l1 k3 a0 (x6_3 ++ [(⟨t229, t234⟩ : S52)]) x7_2 (wrap64 (Int.tdiv a0 2)) (wrap64 (x9_3 + a0))) else (none)) = some (r1, r2) := H
       have A26 := Aside0.mk A260
       clear A260
       by_cases c27 : x6_3.length < 8796093022208
       case neg =>
        rw [if_neg c27] at H
        exact absurd H (by simp)
       rw [if_pos c27] at H
       have LMc27 := Aside0.mk c27
       clear c27
       obtain ⟨y235, hy235⟩ : ∃ y_ : List (S52), y_ = (x6_3 ++ [(⟨t229, t234⟩ : S52)]) := ⟨_, rfl⟩
       replace H : (spec_Map.l1 k3 a0 y235 x7_2 (wrap64 (Int.tdiv a0 2)) (wrap64 (x9_3 + a0))) = some (r1, r2) := by first | (rw [hy235]; with_reducible exact H) | (have H2_ := (Option.bind_some _ _).symm.trans H; rw [hy235]; with_reducible exact H2_) | (have H2_ := (Option.bind_some _ _).symm.trans H; with_reducible exact H2_) | with_reducible exact H | (rw [hy235]; exact H) | exact H
       have Ny235 := Aside0.mk hy235
       clear hy235
       have H' := Aside0.mk H
       clear H
       try go_wp2
       have n0_ := Aside0.mk (zRd HO_6.out)
       have n1_ := Aside0.mk (zRd HO_7.out)
       have n2_ := Aside0.mk (zBd HB.out)
       clear HO_6
       clear HO_7
       clear HB
       have HO_6 := n0_
       have HO_7 := n1_
       have HB := n2_
       clear n0_ n1_ n2_
       have q29 : ((ji22) : Int) ≤ ((x7_2.length : Int) : Int) := zT (by first | (with_reducible assumption) | assumption)
       obtain ⟨i029, hi029, _, hsz29, _⟩ := info_parts info3
       have hroom29 : x7_2.length ≤ co16 := (Kd.R_reads' HO_7.out).2.1
       have hC29 : Kd.C (Kd.int .i64) _ Ao16 x7_2.length x7_2 := (Kd.R_reads' HO_7.out).2.2
       have ql29 : (x9_3 : Int) ≤ ((ji22) : Int) := zT (by first | (with_reducible assumption) | assumption)
       have q029 : (0 : Int) ≤ (x9_3 : Int) := zT (by first | (with_reducible assumption) | assumption)
       have hcut29 := cut_mid (P := Try.prog) 46 3 .i64 .i64 Try.underlying46 hi029 1 hsz29 Ao16 x7_2.length co16 x9_3 (ji22) q029 ql29 q29 hroom29
       have hr29 := Kd.C_mid (lo := (x9_3 : Int).toNat) (hi := ((ji22) : Int).toNat) (c := co16) hC29 (by omega) (by omega) hroom29
       obtain ⟨A29, hA29⟩ : ∃ A1, A1 = (if co16 = (x9_3 : Int).toNat then Ao16 else (Ao16 : Option Addr).map (·.add ((x9_3 : Int).toNat * 1))) := ⟨_, rfl⟩
       obtain ⟨c29, hc29⟩ : ∃ c1, c1 = co16 - (x9_3 : Int).toNat := ⟨_, rfl⟩
       have hy29 : y225.length = ((ji22) : Int).toNat - (x9_3 : Int).toNat := (by rw [Ny225.out, List.length_drop, List.length_take] <;> omega)
       rw [show ((x7_2).take ((ji22) : Int).toNat).drop (x9_3 : Int).toNat = y225 from Ny225.out.symm] at hr29
       replace hr29 : Kd.C (Kd.int .i64) _ A29 y225.length y225 := (by rw [hA29]; exact hr29)
       rw [← hy29, ← hA29, ← hc29] at hcut29
       have HR228 := Aside0.mk hr29
       have HC228 := Aside0.mk (show y225.length ≤ c29 from by rw [hy29, hc29]; exact Nat.sub_le_sub_right (Nat.le_trans (by omega) hroom29) _)
       clear hr29 hC29 hroom29 hi029 hsz29 hc29
       have KY29 := Aside0.mk hy29
       have KA29 := Aside0.mk hA29
       clear hy29 hA29
       have KL29 := Aside0.mk (show ((ji22) : Int).toNat ≤ x7_2.length from by omega)
       have KM29 := Aside0.mk (show (x9_3 : Int).toNat ≤ ((ji22) : Int).toNat from by omega)
       replace q29 := eq_true q29
       have q30 : ((wrap64 (x9_3 + a0)) : Int) ≤ ((x7_2.length : Int) : Int) := zT (by first | (with_reducible assumption) | assumption)
       obtain ⟨i030, hi030, _, hsz30, _⟩ := info_parts info3
       have hroom30 : x7_2.length ≤ co16 := (Kd.R_reads' HO_7.out).2.1
       have hC30 : Kd.C (Kd.int .i64) _ Ao16 x7_2.length x7_2 := (Kd.R_reads' HO_7.out).2.2
       have ql30 : ((ji22) : Int) ≤ ((wrap64 (x9_3 + a0)) : Int) := zT (by first | (with_reducible assumption) | assumption)
       have q030 : (0 : Int) ≤ ((ji22) : Int) := zT (by first | (with_reducible assumption) | assumption)
       have hcut30 := cut_mid (P := Try.prog) 46 3 .i64 .i64 Try.underlying46 hi030 1 hsz30 Ao16 x7_2.length co16 (ji22) (wrap64 (x9_3 + a0)) q030 ql30 q30 hroom30
       have hr30 := Kd.C_mid (lo := ((ji22) : Int).toNat) (hi := ((wrap64 (x9_3 + a0)) : Int).toNat) (c := co16) hC30 (by omega) (by omega) hroom30
       obtain ⟨A30, hA30⟩ : ∃ A1, A1 = (if co16 = ((ji22) : Int).toNat then Ao16 else (Ao16 : Option Addr).map (·.add (((ji22) : Int).toNat * 1))) := ⟨_, rfl⟩
       obtain ⟨c30, hc30⟩ : ∃ c1, c1 = co16 - ((ji22) : Int).toNat := ⟨_, rfl⟩
       have hy30 : y230.length = ((wrap64 (x9_3 + a0)) : Int).toNat - ((ji22) : Int).toNat := (by rw [Ny230.out, List.length_drop, List.length_take] <;> omega)
       rw [show ((x7_2).take ((wrap64 (x9_3 + a0)) : Int).toNat).drop ((ji22) : Int).toNat = y230 from Ny230.out.symm] at hr30
       replace hr30 : Kd.C (Kd.int .i64) _ A30 y230.length y230 := (by rw [hA30]; exact hr30)
       rw [← hy30, ← hA30, ← hc30] at hcut30
       have HR233 := Aside0.mk hr30
       have HC233 := Aside0.mk (show y230.length ≤ c30 from by rw [hy30, hc30]; exact Nat.sub_le_sub_right (Nat.le_trans (by omega) hroom30) _)
       clear hr30 hC30 hroom30 hi030 hsz30 hc30
       have KY30 := Aside0.mk hy30
       have KA30 := Aside0.mk hA30
       clear hy30 hA30
       have KL30 := Aside0.mk (show ((wrap64 (x9_3 + a0)) : Int).toNat ≤ x7_2.length from by omega)
       have KM30 := Aside0.mk (show ((ji22) : Int).toNat ≤ ((wrap64 (x9_3 + a0)) : Int).toNat from by omega)
       replace q30 := eq_true q30
       refine start_ (n := 21) (S := fun w' => True) (ds := []) #[false, false, false, false, false, false, false, false, false, false, false, false, false, false, false, false, false, false, false, false, false] (by kernel_rfl) rfl rfl trivial (fun hHeld => ?_); refine with_tabW spec_Map.tab11 spec_Map.bits11 (fun HT_ HW_ => ?_)
       generalize wr.drew = w28 at HO_6 HO_7 HB HR228 HR233 hHeld ⊢
       refine pure_ (i := 0) (N := some 40) (v := ?_) (a' := ?_) #[true, false, false, false, false, false, false, false, false, false, false, false, false, false, false, false, false, false, false, false, false] rfl rfl (any_of HT_.out (by kernel_rfl)) (fun _ _ _ h => h) (Or.inl ⟨by rfl, ?_⟩) ?_ ?_
       rotate_left
       ·intro w'
        go_simp
        with_reducible rfl
       rotate_left
       ·simp only [Act.put, List.setIfInBounds_toArray, List.set_cons_zero, List.set_cons_succ, i64_w, i32_w]
        rfl
       refine pure_ (i := 1) (N := some 41) (v := ?_) (a' := ?_) #[true, true, false, false, false, false, false, false, false, false, false, false, false, false, false, false, false, false, false, false, false] rfl rfl (any_of HT_.out (by kernel_rfl)) (fun _ _ _ h => h) (Or.inl ⟨by rfl, ?_⟩) ?_ ?_
       rotate_left
       ·intro w'
        go_simp
        with_reducible rfl
       rotate_left
       ·simp only [Act.put, List.setIfInBounds_toArray, List.set_cons_zero, List.set_cons_succ, i64_w, i32_w]
        rfl
       refine pure_ (i := 2) (N := some 42) (v := ?_) (a' := ?_) #[true, true, true, false, false, false, false, false, false, false, false, false, false, false, false, false, false, false, false, false, false] rfl rfl (any_of HT_.out (by kernel_rfl)) (fun _ _ _ h => h) (Or.inl ⟨by rfl, ?_⟩) ?_ ?_
       rotate_left
       ·intro w'
        go_simp
        with_reducible rfl
       rotate_left
       ·simp only [Act.put, List.setIfInBounds_toArray, List.set_cons_zero, List.set_cons_succ, i64_w, i32_w]
        rfl
       refine pure_ (i := 3) (N := some 43) (v := ?_) (a' := ?_) #[true, true, true, true, false, false, false, false, false, false, false, false, false, false, false, false, false, false, false, false, false] rfl rfl (any_of HT_.out (by kernel_rfl)) (fun _ _ _ h => h) (Or.inl ⟨by rfl, ?_⟩) ?_ ?_
       rotate_left
       ·intro w'
        go_simp
        with_reducible rfl
       rotate_left
       ·simp only [Act.put, List.setIfInBounds_toArray, List.set_cons_zero, List.set_cons_succ, i64_w, i32_w]
        rfl
       refine pure_ (i := 4) (N := some 44) (v := ?_) (a' := ?_) #[true, true, true, true, true, false, false, false, false, false, false, false, false, false, false, false, false, false, false, false, false] rfl rfl (any_of HT_.out (by kernel_rfl)) (fun _ _ _ h => h) (Or.inl ⟨by rfl, ?_⟩) ?_ ?_
       rotate_left
       ·intro w'
        go_simp
        with_reducible rfl
       rotate_left
       ·simp only [Act.put, List.setIfInBounds_toArray, List.set_cons_zero, List.set_cons_succ, i64_w, i32_w]
        rfl
       refine pure_ (i := 5) (N := some 45) (v := ?_) (a' := ?_) #[true, true, true, true, true, true, false, false, false, false, false, false, false, false, false, false, false, false, false, false, false] rfl rfl (any_of HT_.out (by kernel_rfl)) (fun _ _ _ h => h) (Or.inl ⟨by rfl, ?_⟩) ?_ ?_
       rotate_left
       ·intro w'
        go_simp
        with_reducible rfl
       rotate_left
       ·simp only [Act.put, List.setIfInBounds_toArray, List.set_cons_zero, List.set_cons_succ, i64_w, i32_w]
        rfl
       refine pure_ (i := 6) (N := some 46) (v := ?_) (a' := ?_) #[true, true, true, true, true, true, true, false, false, false, false, false, false, false, false, false, false, false, false, false, false] rfl rfl (any_of HT_.out (by kernel_rfl)) (fun _ _ _ h => h) (Or.inl ⟨by rfl, ?_⟩) ?_ ?_
       rotate_left
       ·intro w'
        go_simp
        with_reducible rfl
       rotate_left
       ·simp only [Act.put, List.setIfInBounds_toArray, List.set_cons_zero, List.set_cons_succ, i64_w, i32_w]
        rfl
       refine pure_ (i := 8) (N := some 48) (v := ?_) (a' := ?_) #[true, true, true, true, true, true, true, false, true, false, false, false, false, false, false, false, false, false, false, false, false] rfl rfl (any_of HT_.out (by kernel_rfl)) (fun _ _ _ h => h) (Or.inl ⟨by rfl, ?_⟩) ?_ ?_
       rotate_left
       ·intro w'
        go_simp
        with_reducible rfl
       rotate_left
       ·simp only [Act.put, List.setIfInBounds_toArray, List.set_cons_zero, List.set_cons_succ, i64_w, i32_w]
        rfl
       refine pure_ (i := 9) (N := some 49) (v := ?_) (a' := ?_) #[true, true, true, true, true, true, true, false, true, true, false, false, false, false, false, false, false, false, false, false, false] rfl rfl (any_of HT_.out (by kernel_rfl)) (fun _ _ _ h => h) (Or.inl ⟨by rfl, ?_⟩) ?_ ?_
       rotate_left
       ·intro w'
        go_simp
        with_reducible rfl
       rotate_left
       ·simp only [Act.put, List.setIfInBounds_toArray, List.set_cons_zero, List.set_cons_succ, i64_w, i32_w]
        rfl
       refine pure_ (i := 10) (N := some 50) (v := ?_) (a' := ?_) #[true, true, true, true, true, true, true, false, true, true, true, false, false, false, false, false, false, false, false, false, false] rfl rfl (any_of HT_.out (by kernel_rfl)) (fun _ _ _ h => h) (Or.inl ⟨by rfl, ?_⟩) ?_ ?_
       rotate_left
       ·intro w'
        go_simp
        with_reducible rfl
       rotate_left
       ·simp only [Act.put, List.setIfInBounds_toArray, List.set_cons_zero, List.set_cons_succ, i64_w, i32_w]
        rfl
       refine pure_ (i := 11) (N := some 51) (v := ?_) (a' := ?_) #[true, true, true, true, true, true, true, false, true, true, true, true, false, false, false, false, false, false, false, false, false] rfl rfl (any_of HT_.out (by kernel_rfl)) (fun _ _ _ h => h) (Or.inl ⟨by rfl, ?_⟩) ?_ ?_
       rotate_left
       ·intro w'
        go_simp
        with_reducible rfl
       rotate_left
       ·simp only [Act.put, List.setIfInBounds_toArray, List.set_cons_zero, List.set_cons_succ, i64_w, i32_w]
        rfl
       refine pure_ (i := 12) (N := some 52) (v := ?_) (a' := ?_) #[true, true, true, true, true, true, true, false, true, true, true, true, true, false, false, false, false, false, false, false, false] rfl rfl (any_of HT_.out (by kernel_rfl)) (fun _ _ _ h => h) (Or.inl ⟨by rfl, ?_⟩) ?_ ?_
       rotate_left
       ·intro w'
        go_simp
        with_reducible rfl
       rotate_left
       ·simp only [Act.put, List.setIfInBounds_toArray, List.set_cons_zero, List.set_cons_succ, i64_w, i32_w]
        rfl
       refine pure_ (i := 13) (N := some 53) (v := ?_) (a' := ?_) #[true, true, true, true, true, true, true, false, true, true, true, true, true, true, false, false, false, false, false, false, false] rfl rfl (any_of HT_.out (by kernel_rfl)) (fun _ _ _ h => h) (Or.inl ⟨by rfl, ?_⟩) ?_ ?_
       rotate_left
       ·intro w'
        go_simp
        with_reducible rfl
       rotate_left
       ·simp only [Act.put, List.setIfInBounds_toArray, List.set_cons_zero, List.set_cons_succ, i64_w, i32_w]
        rfl
       refine pure_ (i := 14) (N := some 54) (v := ?_) (a' := ?_) #[true, true, true, true, true, true, true, false, true, true, true, true, true, true, true, false, false, false, false, false, false] rfl rfl (any_of HT_.out (by kernel_rfl)) (fun _ _ _ h => h) (Or.inl ⟨by rfl, ?_⟩) ?_ ?_
       rotate_left
       ·intro w'
        go_simp
        with_reducible rfl
       rotate_left
       ·simp only [Act.put, List.setIfInBounds_toArray, List.set_cons_zero, List.set_cons_succ, i64_w, i32_w]
        rfl
       refine pure_ (i := 15) (N := some 55) (v := ?_) (a' := ?_) #[true, true, true, true, true, true, true, false, true, true, true, true, true, true, true, true, false, false, false, false, false] rfl rfl (any_of HT_.out (by kernel_rfl)) (fun _ _ _ h => h) (Or.inl ⟨by rfl, ?_⟩) ?_ ?_
       rotate_left
       ·intro w'
        go_simp
        with_reducible rfl
       rotate_left
       ·simp only [Act.put, List.setIfInBounds_toArray, List.set_cons_zero, List.set_cons_succ, i64_w, i32_w]
        rfl
       refine one_ (i := 7) (N := some 47) #[true, true, true, true, true, true, true, true, true, true, true, true, true, true, true, true, false, false, false, false, false] rfl rfl (one_of HT_.out (by kernel_rfl)) (by decide) (fun K hK => ?_)
       refine goes_ Try.func81 (by kernel_rfl) rfl #[.slice A29 y225.length c29] (by rfl) rfl rfl (by (try simp only [List.map_toArray, List.map_cons, List.map_nil]); first | done | rfl | (simp only [List.length_drop, List.length_take]; rfl)) ?_
       with_reducible refine (spec_l13Level.calls k3 _ _ y225 t229 _ ?side1 ?side2 A21.out).mono ?_
       (case side1 => repeat (first | exact (by repeat (first | (with_reducible exact HR228.out) | (with_reducible first | refine zCa ?_ _ | refine zCn ?_ _ | refine zCd ?_) | exact HR228.out)) | (with_reducible first | refine zCa ?_ _ | refine zCn ?_ _ | refine zCd ?_)))
       (case side2 => exact HC228.out)
       rintro e w' ⟨rfl, ⟨nd, rfl⟩⟩
       refine ⟨_, rfl, ?_⟩
       refine hK.out _ _ trivial (fun hHeld => ?_)
       clear hK K
       refine norm_ (a' := ?_) ?_ ?_
       rotate_left
       ·show Act.put _ (some 47) _ = _
        simp only [Act.put, List.setIfInBounds_toArray, List.set_cons_zero, List.set_cons_succ, i64_w, i32_w]
        rfl
       refine one_ (i := 16) (N := some 56) #[true, true, true, true, true, true, true, true, true, true, true, true, true, true, true, true, true, false, false, false, false] rfl rfl (one_of HT_.out (by kernel_rfl)) (by decide) (fun K hK => ?_)
       refine goes_ Try.func81 (by kernel_rfl) rfl #[.slice A30 y230.length c30] (by rfl) rfl rfl (by (try simp only [List.map_toArray, List.map_cons, List.map_nil]); first | done | rfl | (simp only [List.length_drop, List.length_take]; rfl)) ?_
       with_reducible refine (spec_l13Level.calls k3 _ _ y230 t234 _ ?side1 ?side2 A26.out).mono ?_
       (case side1 => repeat (first | exact (by repeat (first | (with_reducible exact HR233.out) | (with_reducible first | refine zCa ?_ _ | refine zCn ?_ _ | refine zCd ?_) | exact HR233.out)) | (with_reducible first | refine zCa ?_ _ | refine zCn ?_ _ | refine zCd ?_)))
       (case side2 => exact HC233.out)
       rintro e w' ⟨rfl, ⟨nd, rfl⟩⟩
       refine ⟨_, rfl, ?_⟩
       refine hK.out _ _ trivial (fun hHeld => ?_)
       clear hK K
       refine norm_ (a' := ?_) ?_ ?_
       rotate_left
       ·show Act.put _ (some 56) _ = _
        simp only [Act.put, List.setIfInBounds_toArray, List.set_cons_zero, List.set_cons_succ, i64_w, i32_w]
        rfl
       refine pure_ (i := 17) (N := some 57) (v := ?_) (a' := ?_) #[true, true, true, true, true, true, true, true, true, true, true, true, true, true, true, true, true, true, false, false, false] rfl rfl (any_of HT_.out (by kernel_rfl)) (fun _ _ _ h => h) (Or.inl ⟨by rfl, ?_⟩) ?_ ?_
       rotate_left
       ·intro w'
        go_simp
        with_reducible rfl
       rotate_left
       ·simp only [Act.put, List.setIfInBounds_toArray, List.set_cons_zero, List.set_cons_succ, i64_w, i32_w]
        rfl
       refine one_ (i := 18) (N := some 58) #[true, true, true, true, true, true, true, true, true, true, true, true, true, true, true, true, true, true, true, false, false] rfl rfl (one_of HT_.out (by kernel_rfl)) (by decide) (fun K hK => ?_)
       refine value_ (w1 := ?_) (v := ?_) (by rfl) rfl ?_ ?_
       rotate_left 2
       ·go_simp
        constructor
        ·rfl
        ·rfl
       refine hK.out _ _ trivial (fun hHeld => ?_)
       clear hK K
       refine norm_ (a' := ?_) ?_ ?_
       rotate_left
       ·show Act.put _ (some 58) _ = _
        simp only [Act.put, List.setIfInBounds_toArray, List.set_cons_zero, List.set_cons_succ, i64_w, i32_w]
        rfl
       refine one_ (i := 19) (N := some 59) #[true, true, true, true, true, true, true, true, true, true, true, true, true, true, true, true, true, true, true, true, false] rfl rfl (one_of HT_.out (by kernel_rfl)) (by decide) (fun K hK => ?_)
       refine Kd.R_append_step k52 (w0 := w) w.heap.size (by rfl) (.tmp 40) (.tmp 58) 25 52 (.agg #[(.int .i64 0), (.int .i64 0)]) 16 rfl Try.underlying25 info52 rfl (by decide) (by omega) u6 x6_3 (⟨t229, t234⟩ : S52) [.int .i64 t229, .int .i64 t234] (fun _ => True) (fun _ => False) rfl rfl ?aP (fun _ hk => hk.elim) ?aF ?aO ?aB ?aS ?aL ?_
       (case aP => exact k52_mkM _ _ _ (⟨t229, t234⟩ : S52))
       (case aB => exact (by repeat (first | (with_reducible first | exact HB.out | apply zBa | apply zBn | apply zBd) | exact HB.out)))
       (case aF => exact (fun _ _ => trivial))
       (case aO => exact (by (with_reducible repeat (first | apply zRa | apply zRn | apply zRd)); first | exact HO_6.out | (subst_vars; exact HO_6.out)))
       (case aS => exact (below_size (by repeat (first | (with_reducible first | exact HB.out | apply zBa | apply zBn | apply zBd) | exact HB.out))))
       (case aL => have := LMc27.out; omega)
       intro v236 w31 ho hb hg hat
       (first | rw [← Ny235.out] at ho | (simp only [Int.reduceToNat] at ho; rw [← Ny235.out] at ho))
       have n0_ := Aside0.mk (Kd.R_over' (by (with_reducible repeat (first | apply zRa | apply zRn | apply zRd)); first | exact HO_7.out | (subst_vars; exact HO_7.out)) (Kd.R_typed (by (with_reducible repeat (first | apply zRa | apply zRn | apply zRd)); first | exact HO_6.out | (subst_vars; exact HO_6.out))) (by decide) hg)
       have n1_ := Aside0.mk (hb)
       have n2_ := Aside0.mk ((show Kd.C (Kd.int .i64) w31 A29 y225.length y225 from by rw [Ny225.out, KA29.out]; exact Kd.C_mid (lo := (x9_3 : Int).toNat) (hi := ((ji22) : Int).toNat) (c := co16) ((Kd.R_reads' (Kd.R_over' (by (with_reducible repeat (first | apply zRa | apply zRn | apply zRd)); first | exact HO_7.out | (subst_vars; exact HO_7.out)) (Kd.R_typed (by (with_reducible repeat (first | apply zRa | apply zRn | apply zRd)); first | exact HO_6.out | (subst_vars; exact HO_6.out))) (by decide) hg)).2.2) KM29.out KL29.out ((Kd.R_reads' (Kd.R_over' (by (with_reducible repeat (first | apply zRa | apply zRn | apply zRd)); first | exact HO_7.out | (subst_vars; exact HO_7.out)) (Kd.R_typed (by (with_reducible repeat (first | apply zRa | apply zRn | apply zRd)); first | exact HO_6.out | (subst_vars; exact HO_6.out))) (by decide) hg)).2.1)))
       have n3_ := Aside0.mk ((show Kd.C (Kd.int .i64) w31 A30 y230.length y230 from by rw [Ny230.out, KA30.out]; exact Kd.C_mid (lo := ((ji22) : Int).toNat) (hi := ((wrap64 (x9_3 + a0)) : Int).toNat) (c := co16) ((Kd.R_reads' (Kd.R_over' (by (with_reducible repeat (first | apply zRa | apply zRn | apply zRd)); first | exact HO_7.out | (subst_vars; exact HO_7.out)) (Kd.R_typed (by (with_reducible repeat (first | apply zRa | apply zRn | apply zRd)); first | exact HO_6.out | (subst_vars; exact HO_6.out))) (by decide) hg)).2.2) KM30.out KL30.out ((Kd.R_reads' (Kd.R_over' (by (with_reducible repeat (first | apply zRa | apply zRn | apply zRd)); first | exact HO_7.out | (subst_vars; exact HO_7.out)) (Kd.R_typed (by (with_reducible repeat (first | apply zRa | apply zRn | apply zRd)); first | exact HO_6.out | (subst_vars; exact HO_6.out))) (by decide) hg)).2.1)))
       have n4_ := Aside0.mk (ho)
       clear HO_7
       clear HB
       clear HR228
       clear HR233
       clear HO_6
       have HO_7 := n0_
       have HB := n1_
       have HR228 := n2_
       have HR233 := n3_
       have HO237 := n4_
       clear n0_ n1_ n2_ n3_ n4_
       clear ho hb hg hat
       refine hK.out _ _ trivial (fun hHeld => ?_)
       clear hK K
       refine norm_ (a' := ?_) ?_ ?_
       rotate_left
       ·show Act.put _ (some 59) _ = _
        simp only [Act.put, List.setIfInBounds_toArray, List.set_cons_zero, List.set_cons_succ, i64_w, i32_w]
        rfl
       refine pure_ (i := 20) (N := some 6) (v := ?_) (a' := ?_) #[true, true, true, true, true, true, true, true, true, true, true, true, true, true, true, true, true, true, true, true, true] rfl rfl (any_of HT_.out (by kernel_rfl)) (fun _ _ _ h => h) (Or.inl ⟨by rfl, ?_⟩) ?_ ?_
       rotate_left
       ·intro w'
        go_simp
        with_reducible rfl
       rotate_left
       ·simp only [Act.put, List.setIfInBounds_toArray, List.set_cons_zero, List.set_cons_succ, i64_w, i32_w]
        rfl
       refine done_ (done_of HT_.out (by kernel_rfl)) ?_
       try go_wp2
       go_roundg k3
       case measure => have := HJ2.out; have := HK2.out; have := HK3.out; omega
       case rel => exact ⟨(y235), (wrap64 (x9_3 + a0)), (by first | rfl | (simp; done) | (simp [*]; done)), H', ⟨by have := HJ2.out; have := HK2.out; have := HK3.out; omega⟩, ⟨by (with_reducible repeat (first | apply zRa | apply zRn | apply zRd)); first | exact HO237.out | (subst_vars; exact HO237.out)⟩, ⟨by (with_reducible repeat (first | apply zRa | apply zRn | apply zRd)); first | exact HO_7.out | (subst_vars; exact HO_7.out)⟩, ⟨by repeat (first | (with_reducible first | exact HB.out | apply zBa | apply zBn | apply zBd) | exact HB.out)⟩⟩

end Go.Proofs.Ytapobpkeefeajaa.PFnExactSend
