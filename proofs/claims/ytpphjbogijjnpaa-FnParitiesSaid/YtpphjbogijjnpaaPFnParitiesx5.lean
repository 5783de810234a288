-- Written by a turned copy of the print (see the notes of this repo): plain functions and their walks. Lean checks it.
import Derived.Test.YtpphjbogijjnpaaPFnParitiesx0
import Derived.Test.YtpphjbogijjnpaaPFnParitiesx2
import Derived.Test.YtpphjbogijjnpaaPFnParitiesx4
namespace Go.Proofs.Ytpphjbogijjnpaa.PFnParities
open Go.RowKit Go.Proofs.YtpphjbogijjnpaaW.PrintWords Go.Proofs.YtpphjbogijjnpaaW.PrintLast Go.Proofs.YtpphjbogijjnpaaW.PrintMore
attribute [local go_sem] max2_int min2_int max_two min_two max_three min_three max_four min_four   -- for this text's walks alone
set_option linter.unusedVariables false
set_option linter.unusedSimpArgs false

/-! ### spec_TurnBits: function 19 -/
mutual
def spec_TurnBits.j0 : Nat → List (List Int) → List Int → Int → List Int → Bool → Option (List Int × Int × Bool)
 | 0, _, _, _, _, _ => none
 | k + 1, x0, x1, x2, x9, x31 => if x31 = true then (some ((([] : List Int)), 0, false)) else ((some (([] : List Int) : List Int)).bind fun y151 => (if y151.length + x1.length < 17592186044416 then (spec_TurnBits.l0 k x0 x2 x9 (y151 ++ x1) 0) else (none)))
def spec_TurnBits.l0 : Nat → List (List Int) → Int → List Int → List Int → Int → Option (List Int × Int × Bool)
 | 0, _, _, _, _, _ => none
 | k + 1, x0, x2, x9, x11, x12 => if (x9.length : Int) > 0 then (spec_TurnBits.j2 k x0 x2 x9 x11 x12 (decide (x12 < x2))) else (spec_TurnBits.j2 k x0 x2 x9 x11 x12 false)
def spec_TurnBits.j2 : Nat → List (List Int) → Int → List Int → List Int → Int → Bool → Option (List Int × Int × Bool)
 | 0, _, _, _, _, _, _ => none
 | k + 1, x0, x2, x9, x11, x12, x43 => if x43 = true then (if 0 ≤ (x11.length : Int) then (if ((x11.length : Int) : Int).toNat ≤ 35184372088832 then (spec_TurnBits.l1 k x0 x2 x9 x11 x12 (List.replicate ((x11.length : Int) : Int).toNat 0) 0 0) else (none)) else (none)) else (some (x11, x12, ((x9.length : Int) == 0)))
def spec_TurnBits.l1 : Nat → List (List Int) → Int → List Int → List Int → Int → List Int → Int → Int → Option (List Int × Int × Bool)
 | 0, _, _, _, _, _, _, _, _ => none
 | k + 1, x0, x2, x9, x11, x12, x13, x14, x15 => if x15 < (x9.length : Int) then (if 0 ≤ x15 then (if 0 ≤ (rd x9 x15) then (if (rd x9 x15) < (x0.length : Int) then (spec_TurnBits.l2 k x0 x2 x9 x11 x12 x13 x14 x15 (rd_L1 x0 (rd x9 x15)) 0) else (none)) else (none)) else (none)) else (spec_TurnBits.l3 k x0 x2 x11 x12 x13 x14 0)
def spec_TurnBits.l2 : Nat → List (List Int) → Int → List Int → List Int → Int → List Int → Int → Int → List Int → Int → Option (List Int × Int × Bool)
 | 0, _, _, _, _, _, _, _, _, _, _ => none
 | k + 1, x0, x2, x9, x11, x12, x13, x14, x15, x16, x17 => if x17 < (x16.length : Int) then (if 0 ≤ x17 then (if 0 ≤ (rd x16 x17) then (if (rd x16 x17) < (x13.length : Int) then ((some (x13.set ((rd x16 x17) : Int).toNat (wrap64 ((rd x13 (rd x16 x17)) + 1)) : List Int)).bind fun y164 => (if (rd y164 (rd x16 x17)) > x14 then (spec_TurnBits.l2 k x0 x2 x9 x11 x12 y164 (rd y164 (rd x16 x17)) x15 x16 (wrap64 (x17 + 1))) else (spec_TurnBits.l2 k x0 x2 x9 x11 x12 y164 x14 x15 x16 (wrap64 (x17 + 1))))) else (none)) else (none)) else (none)) else (spec_TurnBits.l1 k x0 x2 x9 x11 x12 x13 x14 (wrap64 (x15 + 1)))
def spec_TurnBits.l3 : Nat → List (List Int) → Int → List Int → Int → List Int → Int → Int → Option (List Int × Int × Bool)
 | 0, _, _, _, _, _, _, _ => none
 | k + 1, x0, x2, x11, x12, x13, x14, x18 => if x18 < (x11.length : Int) then (if 0 ≤ x18 then (if x18 < (x13.length : Int) then (if (rd x13 x18) = x14 then (spec_TurnBits.l3 k x0 x2 (x11.set (x18 : Int).toNat (wrap64 (1 - (rd x11 x18)))) x12 x13 x14 (wrap64 (x18 + 1))) else (spec_TurnBits.l3 k x0 x2 x11 x12 x13 x14 (wrap64 (x18 + 1)))) else (none)) else (none)) else ((spec_Fails.f k x0 x11).bind fun bt172 => (spec_TurnBits.l0 k x0 x2 bt172.1 x11 (wrap64 (x12 + 1))))
end
def spec_TurnBits.f (k : Nat) (l0 : List (List Int)) (l1 : List Int) (a2 : Int) : Option (List Int × Int × Bool) := (spec_Fails.f k l0 l1).bind fun bt143 => (if bt143.2 = true then ((spec_l1In.f a2 0 50).bind fun t147 => (spec_TurnBits.j0 k l0 l1 a2 bt143.1 (!t147))) else (spec_TurnBits.j0 k l0 l1 a2 bt143.1 true))
theorem spec_TurnBits.mono_l : ∀ k, (∀ y0 y1 y2 y3 y4, LeO (spec_TurnBits.j0 k y0 y1 y2 y3 y4) (spec_TurnBits.j0 (k + 1) y0 y1 y2 y3 y4)) ∧ (∀ y0 y1 y2 y3 y4, LeO (spec_TurnBits.l0 k y0 y1 y2 y3 y4) (spec_TurnBits.l0 (k + 1) y0 y1 y2 y3 y4)) ∧ (∀ y0 y1 y2 y3 y4 y5, LeO (spec_TurnBits.j2 k y0 y1 y2 y3 y4 y5) (spec_TurnBits.j2 (k + 1) y0 y1 y2 y3 y4 y5)) ∧ (∀ y0 y1 y2 y3 y4 y5 y6 y7, LeO (spec_TurnBits.l1 k y0 y1 y2 y3 y4 y5 y6 y7) (spec_TurnBits.l1 (k + 1) y0 y1 y2 y3 y4 y5 y6 y7)) ∧ (∀ y0 y1 y2 y3 y4 y5 y6 y7 y8 y9, LeO (spec_TurnBits.l2 k y0 y1 y2 y3 y4 y5 y6 y7 y8 y9) (spec_TurnBits.l2 (k + 1) y0 y1 y2 y3 y4 y5 y6 y7 y8 y9)) ∧ (∀ y0 y1 y2 y3 y4 y5 y6, LeO (spec_TurnBits.l3 k y0 y1 y2 y3 y4 y5 y6) (spec_TurnBits.l3 (k + 1) y0 y1 y2 y3 y4 y5 y6))
 | 0 => ⟨fun _ _ _ _ _ r h => by simp [spec_TurnBits.j0] at h, fun _ _ _ _ _ r h => by simp [spec_TurnBits.l0] at h, fun _ _ _ _ _ _ r h => by simp [spec_TurnBits.j2] at h, fun _ _ _ _ _ _ _ _ r h => by simp [spec_TurnBits.l1] at h, fun _ _ _ _ _ _ _ _ _ _ r h => by simp [spec_TurnBits.l2] at h, fun _ _ _ _ _ _ _ r h => by simp [spec_TurnBits.l3] at h⟩
 | k + 1 => by
  obtain ⟨ih0, ih1, ih2, ih3, ih4, ih5⟩ := spec_TurnBits.mono_l k
  refine ⟨?_, ?_, ?_, ?_, ?_, ?_⟩
  ·intro y0 y1 y2 y3 y4
   unfold spec_TurnBits.j0
   repeat' first
   | (with_reducible exact ih0 _ _ _ _ _)
   | (with_reducible exact ih1 _ _ _ _ _)
   | (with_reducible exact ih2 _ _ _ _ _ _)
   | (with_reducible exact ih3 _ _ _ _ _ _ _ _)
   | (with_reducible exact ih4 _ _ _ _ _ _ _ _ _ _)
   | (with_reducible exact ih5 _ _ _ _ _ _ _)
   | (with_reducible exact spec_Fails.mono _ _ _)
   | (with_reducible exact LeO.refl _)
   | (with_reducible exact LeO.none _)
   | (with_reducible refine LeO.ite ?_ ?_)
   | (with_reducible refine LeO.bind ?_ (fun _ => ?_))
  ·intro y0 y1 y2 y3 y4
   unfold spec_TurnBits.l0
   repeat' first
   | (with_reducible exact ih0 _ _ _ _ _)
   | (with_reducible exact ih1 _ _ _ _ _)
   | (with_reducible exact ih2 _ _ _ _ _ _)
   | (with_reducible exact ih3 _ _ _ _ _ _ _ _)
   | (with_reducible exact ih4 _ _ _ _ _ _ _ _ _ _)
   | (with_reducible exact ih5 _ _ _ _ _ _ _)
   | (with_reducible exact spec_Fails.mono _ _ _)
   | (with_reducible exact LeO.refl _)
   | (with_reducible exact LeO.none _)
   | (with_reducible refine LeO.ite ?_ ?_)
   | (with_reducible refine LeO.bind ?_ (fun _ => ?_))
  ·intro y0 y1 y2 y3 y4 y5
   unfold spec_TurnBits.j2
   repeat' first
   | (with_reducible exact ih0 _ _ _ _ _)
   | (with_reducible exact ih1 _ _ _ _ _)
   | (with_reducible exact ih2 _ _ _ _ _ _)
   | (with_reducible exact ih3 _ _ _ _ _ _ _ _)
   | (with_reducible exact ih4 _ _ _ _ _ _ _ _ _ _)
   | (with_reducible exact ih5 _ _ _ _ _ _ _)
   | (with_reducible exact spec_Fails.mono _ _ _)
   | (with_reducible exact LeO.refl _)
   | (with_reducible exact LeO.none _)
   | (with_reducible refine LeO.ite ?_ ?_)
   | (with_reducible refine LeO.bind ?_ (fun _ => ?_))
  ·intro y0 y1 y2 y3 y4 y5 y6 y7
   unfold spec_TurnBits.l1
   repeat' first
   | (with_reducible exact ih0 _ _ _ _ _)
   | (with_reducible exact ih1 _ _ _ _ _)
   | (with_reducible exact ih2 _ _ _ _ _ _)
   | (with_reducible exact ih3 _ _ _ _ _ _ _ _)
   | (with_reducible exact ih4 _ _ _ _ _ _ _ _ _ _)
   | (with_reducible exact ih5 _ _ _ _ _ _ _)
   | (with_reducible exact spec_Fails.mono _ _ _)
   | (with_reducible exact LeO.refl _)
   | (with_reducible exact LeO.none _)
   | (with_reducible refine LeO.ite ?_ ?_)
   | (with_reducible refine LeO.bind ?_ (fun _ => ?_))
  ·intro y0 y1 y2 y3 y4 y5 y6 y7 y8 y9
   unfold spec_TurnBits.l2
   repeat' first
   | (with_reducible exact ih0 _ _ _ _ _)
   | (with_reducible exact ih1 _ _ _ _ _)
   | (with_reducible exact ih2 _ _ _ _ _ _)
   | (with_reducible exact ih3 _ _ _ _ _ _ _ _)
   | (with_reducible exact ih4 _ _ _ _ _ _ _ _ _ _)
   | (with_reducible exact ih5 _ _ _ _ _ _ _)
   | (with_reducible exact spec_Fails.mono _ _ _)
   | (with_reducible exact LeO.refl _)
   | (with_reducible exact LeO.none _)
   | (with_reducible refine LeO.ite ?_ ?_)
   | (with_reducible refine LeO.bind ?_ (fun _ => ?_))
  ·intro y0 y1 y2 y3 y4 y5 y6
   unfold spec_TurnBits.l3
   repeat' first
   | (with_reducible exact ih0 _ _ _ _ _)
   | (with_reducible exact ih1 _ _ _ _ _)
   | (with_reducible exact ih2 _ _ _ _ _ _)
   | (with_reducible exact ih3 _ _ _ _ _ _ _ _)
   | (with_reducible exact ih4 _ _ _ _ _ _ _ _ _ _)
   | (with_reducible exact ih5 _ _ _ _ _ _ _)
   | (with_reducible exact spec_Fails.mono _ _ _)
   | (with_reducible exact LeO.refl _)
   | (with_reducible exact LeO.none _)
   | (with_reducible refine LeO.ite ?_ ?_)
   | (with_reducible refine LeO.bind ?_ (fun _ => ?_))
theorem spec_TurnBits.mono : ∀ a0 a1 a2 k, LeO (spec_TurnBits.f k a0 a1 a2) (spec_TurnBits.f (k + 1) a0 a1 a2) := by
 intro a0 a1 a2 k
 obtain ⟨ih0, ih1, ih2, ih3, ih4, ih5⟩ := spec_TurnBits.mono_l k
 unfold spec_TurnBits.f
 repeat' first
  | (with_reducible exact ih0 _ _ _ _ _)
  | (with_reducible exact ih1 _ _ _ _ _)
  | (with_reducible exact ih2 _ _ _ _ _ _)
  | (with_reducible exact ih3 _ _ _ _ _ _ _ _)
  | (with_reducible exact ih4 _ _ _ _ _ _ _ _ _ _)
  | (with_reducible exact ih5 _ _ _ _ _ _ _)
  | (with_reducible exact spec_Fails.mono _ _ _)
  | (with_reducible exact LeO.refl _)
  | (with_reducible exact LeO.none _)
  | (with_reducible refine LeO.ite ?_ ?_)
  | (with_reducible refine LeO.bind ?_ (fun _ => ?_))
set_option maxHeartbeats 8000000 in
set_option maxRecDepth 100000 in
theorem spec_TurnBits.calls (k : Nat) (A0 : Option Addr) (c0 : Nat) (l0 : List (List Int)) (A1 : Option Addr) (c1 : Nat) (l1 : List Int) (a2 : Int) (r1 : List Int) (r2 : Int) (r3 : Bool) (w : World) (hr0 : Kd.C (Kd.slice 3 (Kd.int .i64)) w A0 l0.length l0) (hc0 : l0.length ≤ c0) (hr1 : Kd.C (Kd.int .i64) w A1 l1.length l1) (hc1 : l1.length ≤ c1) (h : spec_TurnBits.f k l0 l1 a2 = some (r1, r2, r3)) :
 Calls Try.prog 19 #[.slice A0 l0.length c0, .slice A1 l1.length c1, .int .i64 a2] w fun e w' => ∃ v0_ : Value, e = .returned (.tuple #[v0_, .int .i64 r2, .bool r3]) ∧ Kd.R (Kd.int .i64) 3 w' w.heap.size (fun _ => True) v0_ r1 ∧ Below w.heap.size w w' := by
 have HR0 := zM hr0
 have HC0 := zM hc0
 clear hr0 hc0
 have HR1 := zM hr1
 have HC1 := zM hc1
 clear hr1 hc1
 have HB := zM (Below.refl w.heap.size w)
 have H : ((spec_Fails.f k l0 l1).bind fun bt143 => (if bt143.2 = true then ((spec_l1In.f a2 0 50).bind fun t147 => (spec_TurnBits.j0 k l0 l1 a2 bt143.1 (!t147))) else (spec_TurnBits.j0 k l0 l1 a2 bt143.1 true))) = some (r1, r2, r3) := h
 clear h
 replace H := zO.mp H
 obtain ⟨⟨t143, t144⟩, A40, H⟩ := H
 replace H : (if t144 = true then ((spec_l1In.f a2 0 50).bind fun t147 => (spec_TurnBits.j0 k l0 l1 a2 t143 (!t147))) else (spec_TurnBits.j0 k l0 l1 a2 t143 true)) = some (r1, r2, r3) := H
 have A4 := zM A40
 clear A40
 have HC5 := zM H
 clear H
 go_enter Try.func19, Try.ntmps19
 go_upto_region 2 with (first | ((with_reducible refine gate_callee (f := 10) rfl ?_); refine goesL_ (some 22) rfl rfl Try.func10 (by kernel_rfl) rfl #[.slice A0 l0.length c0, .slice A1 l1.length c1] rfl (by (try simp only [List.map_toArray, List.map_cons, List.map_nil]); first | done | rfl | (simp only [List.length_drop, List.length_take]; rfl)) ?_; (with_reducible refine (spec_Fails.calls k _ _ l0 _ _ l1 t143 t144 _ ?side1 ?side2 ?side3 ?side4 A4.out).mono ?_); (case side1 => repeat (first | exact HR0.out | (with_reducible first | refine zCa ?_ _ | refine zCn ?_ _ | refine zCd ?_))); (case side2 => exact HC0.out); (case side3 => repeat (first | exact HR1.out | (with_reducible first | refine zCa ?_ _ | refine zCn ?_ _ | refine zCd ?_))); (case side4 => exact HC1.out); rintro e w6 ⟨v145, rfl, ho0, hb⟩; refine ⟨_, rfl, ?_⟩; have n0_ := zM (Kd.R_lower ho0 (below_size (by repeat (first | (with_reducible first | exact HB.out | apply zBa | apply zBn | apply zBd) | exact HB.out)))); have n1_ := zM (below_step (by repeat (first | (with_reducible first | exact HB.out | apply zBa | apply zBn | apply zBd) | exact HB.out)) hb); clear HB; have HO146 := n0_; have HB := n1_; clear n0_ n1_; (try clear hb); (try clear hb2); (try clear hk); (try clear hi); (try clear ho0)))
 (try simp only [Act.put, zS1, zS2, zS3])
 go_cut [31] (fun v31 wc => ∃ (kq : Nat) (x31_4 : Bool), v31 = .bool x31_4 ∧ Aside0 (spec_TurnBits.j0 kq l0 l1 a2 t143 x31_4 = some (r1, r2, r3)) ∧ Aside0 (kq ≤ k) ∧ Aside0 (Kd.R (Kd.int .i64) 3 wc w.heap.size (fun _ => True) v145 t143) ∧ Aside0 (Below w.heap.size w wc))
 case first =>
  have H := HC5.out
  clear HC5
  by_cases c7 : t144 = true
  case neg =>
   replace c7 := Bool.eq_false_iff.mpr c7
   subst c7
   have H1 : (spec_TurnBits.j0 k l0 l1 a2 t143 true) = some (r1, r2, r3) := by rw [if_neg (show ¬ (false = true) by decide)] at H; exact H
   clear H
   have H := H1
   clear H1
   have H' := zM H
   clear H
   go_wp2
   go_meet
   case rel => exact ⟨_, (true), (by first | rfl | (simp; done) | (simp [*]; done)), H', ⟨by first | omega | exact Nat.le_refl _⟩, ⟨by (with_reducible repeat (first | apply zRa | apply zRn | apply zRd)); first | exact HO146.out | (subst_vars; exact HO146.out)⟩, ⟨by repeat (first | (with_reducible first | exact HB.out | apply zBa | apply zBn | apply zBd) | exact HB.out)⟩⟩
  subst c7
  have H1 : ((spec_l1In.f a2 0 50).bind fun t147 => (spec_TurnBits.j0 k l0 l1 a2 t143 (!t147))) = some (r1, r2, r3) := by rw [if_pos rfl] at H; exact H
  clear H
  have H := H1
  clear H1
  replace H := zO.mp H
  obtain ⟨t147, A80, H⟩ := H
  replace H : (spec_TurnBits.j0 k l0 l1 a2 t143 (!t147)) = some (r1, r2, r3) := H
  have A8 := zM A80
  clear A80
  have H' := zM H
  clear H
  go_wp2_with (first | (go_at_call 38; (with_reducible refine (spec_l1In.calls a2 0 50 t147 _ A8.out).mono ?_); rintro e w' ⟨rfl, ⟨nd, rfl⟩⟩))
  go_meet
  case rel => exact ⟨_, (!t147), (by first | rfl | (simp; done) | (simp [*]; done)), H', ⟨by first | omega | exact Nat.le_refl _⟩, ⟨by (with_reducible repeat (first | apply zRa | apply zRn | apply zRd)); first | exact HO146.out | (subst_vars; exact HO146.out)⟩, ⟨by repeat (first | (with_reducible first | exact HB.out | apply zBa | apply zBn | apply zBd) | exact HB.out)⟩⟩
 case rest =>
  clear HC5
  try clear c1
  try clear p2
  try clear c7
  obtain ⟨kq, x31_4, rfl, HA, HJ4, HO_9, HB⟩ := hcut
  cases kq with
  | zero => exact absurd HA.out (by simp [spec_TurnBits.j0])
  | succ kj4 =>
   have H := HA.out
   clear HA
   simp only [spec_TurnBits.j0] at H
   by_cases c9 : x31_4 = true
   case pos =>
    subst c9
    have H1 : (some ((([] : List Int)), 0, false)) = some (r1, r2, r3) := by rw [if_pos rfl] at H; exact H
    clear H
    have H := H1
    clear H1
    obtain ⟨y148, hy148⟩ : ∃ y_ : List Int, y_ = (([] : List Int)) := ⟨_, rfl⟩
    replace H : (some (y148, 0, false)) = some (r1, r2, r3) := by first | (rw [hy148]; with_reducible exact H) | (have H2_ := (Option.bind_some _ _).symm.trans H; rw [hy148]; with_reducible exact H2_) | (have H2_ := (Option.bind_some _ _).symm.trans H; with_reducible exact H2_) | with_reducible exact H | (rw [hy148]; exact H) | exact H
    have Ny148 := zM hy148
    clear hy148
    simp only [Option.some.injEq, Prod.mk.injEq] at H
    obtain ⟨rfl, rfl, rfl⟩ := H
    go_wp2_with (first | ((with_reducible refine gate_dst (N := 32) rfl ?_); refine Kd.R_lit (Kd.int .i64) _ 3 ?hg (N := 32) ?hd (xs := ([] : List Int)) (inner := []) (ok := fun _ => True) (okp := fun _ => True) ?hr ?hp (fun _ hk => hk) trivial (Below.refl _ _) (Nat.le_refl _) (by simp) ?_; (case hd => rfl); (case hg => rfl); (case hr => first | (go_simp; done) | (go_simp; rfl)); (case hp => exact (Reps.none _ _)); intro v149 w10 ho11 hb hg_ hnew_; clear hg_ hnew_; (first | rw [← Ny148.out] at ho11 | (simp only [Int.reduceToNat] at ho11; rw [← Ny148.out] at ho11)); have n0_ := zM (Kd.R_elder' (by (with_reducible repeat (first | apply zRa | apply zRn | apply zRd)); first | exact HO_9.out | (subst_vars; exact HO_9.out)) (Kd.R_base ho11) hb); have n1_ := zM (Kd.R_lower (Kd.R_new' ho11 (Kd.R_lt (by (with_reducible repeat (first | apply zRa | apply zRn | apply zRd)); first | exact HO_9.out | (subst_vars; exact HO_9.out)))) (below_size (by repeat (first | (with_reducible first | exact HB.out | apply zBa | apply zBn | apply zBd) | exact HB.out)))); have n2_ := zM (below_step (by repeat (first | (with_reducible first | exact HB.out | apply zBa | apply zBn | apply zBd) | exact HB.out)) hb); clear HO_9; clear HB; have HO_9 := n0_; have HO150 := n1_; have HB := n2_; clear n0_ n1_ n2_; clear hb ho11))
    go_ret3
    exact ⟨_, by first | rfl | (simp [errW_none, errW_some] <;> rfl) | (simp [*, errW_none, errW_some] <;> rfl), by (with_reducible repeat (first | apply zRa | apply zRn | apply zRd)); first | exact Kd.R_mono HO150.out (fun _ hk => trivial) | (subst_vars; exact Kd.R_mono HO150.out (fun _ hk => trivial)), by repeat (first | (with_reducible first | exact HB.out | apply zBa | apply zBn | apply zBd) | exact HB.out)⟩
   replace c9 := Bool.eq_false_iff.mpr c9
   subst c9
   have H1 : ((some (([] : List Int) : List Int)).bind fun y151 => (if y151.length + l1.length < 17592186044416 then (spec_TurnBits.l0 kj4 l0 a2 t143 (y151 ++ l1) 0) else (none))) = some (r1, r2, r3) := by rw [if_neg (show ¬ (false = true) by decide)] at H; exact H
   clear H
   have H := H1
   clear H1
   obtain ⟨y151, hy151⟩ : ∃ y_ : List Int, y_ = (([] : List Int)) := ⟨_, rfl⟩
   replace H : (if y151.length + l1.length < 17592186044416 then (spec_TurnBits.l0 kj4 l0 a2 t143 (y151 ++ l1) 0) else (none)) = some (r1, r2, r3) := by first | (rw [hy151]; with_reducible exact H) | (have H2_ := (Option.bind_some _ _).symm.trans H; rw [hy151]; with_reducible exact H2_) | (have H2_ := (Option.bind_some _ _).symm.trans H; with_reducible exact H2_) | with_reducible exact H | (rw [hy151]; exact H) | exact H
   have Ny151 := zM hy151
   clear hy151
   by_cases c12 : y151.length + l1.length < 17592186044416
   case neg =>
    rw [if_neg c12] at H
    exact absurd H (by simp)
   rw [if_pos c12] at H
   have LMc12 := zM c12
   clear c12
   obtain ⟨y154, hy154⟩ : ∃ y_ : List Int, y_ = (y151 ++ l1) := ⟨_, rfl⟩
   replace H : (spec_TurnBits.l0 kj4 l0 a2 t143 y154 0) = some (r1, r2, r3) := by first | (rw [hy154]; with_reducible exact H) | (have H2_ := (Option.bind_some _ _).symm.trans H; rw [hy154]; with_reducible exact H2_) | (have H2_ := (Option.bind_some _ _).symm.trans H; with_reducible exact H2_) | with_reducible exact H | (rw [hy154]; exact H) | exact H
   have Ny154 := zM hy154
   clear hy154
   have H' := zM H
   clear H
   go_wp2_with (first | ((with_reducible refine gate_dst (N := 33) rfl ?_); refine Kd.R_lit (Kd.int .i64) _ 3 ?hg (N := 33) ?hd (xs := ([] : List Int)) (inner := []) (ok := fun _ => True) (okp := fun _ => True) ?hr ?hp (fun _ hk => hk) trivial (Below.refl _ _) (Nat.le_refl _) (by simp) ?_; (case hd => rfl); (case hg => rfl); (case hr => first | (go_simp; done) | (go_simp; rfl)); (case hp => exact (Reps.none _ _)); intro v152 w13 ho14 hb hg_ hnew_; clear hg_ hnew_; (first | rw [← Ny151.out] at ho14 | (simp only [Int.reduceToNat] at ho14; rw [← Ny151.out] at ho14)); have n0_ := zM (Kd.R_elder' (by (with_reducible repeat (first | apply zRa | apply zRn | apply zRd)); first | exact HO_9.out | (subst_vars; exact HO_9.out)) (Kd.R_base ho14) hb); have n1_ := zM (Kd.R_lower (Kd.R_new' ho14 (Kd.R_lt (by (with_reducible repeat (first | apply zRa | apply zRn | apply zRd)); first | exact HO_9.out | (subst_vars; exact HO_9.out)))) (below_size (by repeat (first | (with_reducible first | exact HB.out | apply zBa | apply zBn | apply zBd) | exact HB.out)))); have n2_ := zM (below_step (by repeat (first | (with_reducible first | exact HB.out | apply zBa | apply zBn | apply zBd) | exact HB.out)) hb); clear HO_9; clear HB; have HO_9 := n0_; have HO153 := n1_; have HB := n2_; clear n0_ n1_ n2_; clear hb ho14) | ((with_reducible refine gate_builtin (b := .append) (xs := #[.tmp 33, .tmp 34]) rfl ?_); at_builtin; refine Kd.R_append_rows (Kd.int .i64) (w0 := w) w.heap.size rfl (.tmp 33) (.tmp 34) 23 3 (.int .i64 0) 8 rfl Try.underlying23 info3 rfl (by decide) (by omega) v152 y151 l1 _ _ _ (fun k_ => some k_ ≠ (v145 : Value).ownBlock) (fun _ => False) rfl rfl ?aO ?aR (fun _ _ h => h) (fun _ h => h.elim) ?aF ?aB ?aS ?aL ?_; (case aR => repeat (first | exact (Kd.C_below HR1.out HB.out) | (with_reducible first | refine zCa ?_ _ | refine zCn ?_ _ | refine zCd ?_))); (case aB => exact (by repeat (first | (with_reducible first | exact HB.out | apply zBa | apply zBn | apply zBd) | exact HB.out))); (case aF => exact (fun k_ hk => Kd.fresh' (Kd.R_lt (by (with_reducible repeat (first | apply zRa | apply zRn | apply zRd)); first | exact HO_9.out | (subst_vars; exact HO_9.out))) k_ hk)); (case aO => exact (by (with_reducible repeat (first | apply zRa | apply zRn | apply zRd)); first | exact Kd.R_mono HO153.out (fun _ hk => hk.2) | (subst_vars; exact Kd.R_mono HO153.out (fun _ hk => hk.2)))); (case aS => exact (below_size (by repeat (first | (with_reducible first | exact HB.out | apply zBa | apply zBn | apply zBd) | exact HB.out)))); (case aL => have := LMc12.out; omega); intro v155 w15 ho hb hg hat; (first | rw [← Ny154.out] at ho | (simp only [Int.reduceToNat] at ho; rw [← Ny154.out] at ho)); have n0_ := zM (Kd.R_after (ok := (fun _ => True)) (by (with_reducible repeat (first | apply zRa | apply zRn | apply zRd)); first | exact HO_9.out | (subst_vars; exact HO_9.out)) hg hat); have n1_ := zM (hb); have n2_ := zM (ho); clear HO_9; clear HB; clear HO153; have HO_9 := n0_; have HB := n1_; have HO156 := n2_; clear n0_ n1_ n2_; clear ho hb hg hat))
   (try simp only [Act.put, zS1, zS2, zS3])
   go_loopg [9, 12] kj4 (fun kq v9 v12 w' => ∃ (x9_2 : List Int) (x11_2 : List Int) (x12_2 : Int), v12 = .int .i64 x12_2 ∧ Aside0 (spec_TurnBits.l0 kq l0 a2 x9_2 x11_2 x12_2 = some (r1, r2, r3)) ∧ Aside0 (kq ≤ kj4) ∧ Aside0 (Kd.R (Kd.int .i64) 3 w' w.heap.size (fun k_ => some k_ ≠ (v155 : Value).ownBlock) v9 x9_2) ∧ Aside0 (Kd.R (Kd.int .i64) 3 w' w.heap.size (fun k_ => some k_ ≠ (v9 : Value).ownBlock) v155 x11_2) ∧ Aside0 (Below w.heap.size w w'))
   case atStart => exact ⟨(t143), (y154), (0), (by first | rfl | (simp; done) | (simp [*]; done)), H', ⟨Nat.le_refl _⟩, ⟨by (with_reducible repeat (first | apply zRa | apply zRn | apply zRd)); first | exact Kd.R_mono HO_9.out (fun _ hk => hk.2) | (subst_vars; exact Kd.R_mono HO_9.out (fun _ hk => hk.2))⟩, ⟨by (with_reducible repeat (first | apply zRa | apply zRn | apply zRd)); first | exact HO156.out | (subst_vars; exact HO156.out)⟩, ⟨by repeat (first | (with_reducible first | exact HB.out | apply zBa | apply zBn | apply zBd) | exact HB.out)⟩⟩
   case round =>
    clear H'
    try clear c1
    try clear p2
    try clear c7
    try clear c9
    try clear c10
    try clear c12
    try clear p2
    obtain ⟨x9_2, x11_2, x12_2, rfl, HA, HK2, HO_9, HO_11, HB⟩ := hrel
    cases gk with
    | zero => exact absurd HA.out (by simp [spec_TurnBits.l0])
    | succ k2 =>
     have H := HA.out
     clear HA
     simp only [spec_TurnBits.l0] at H
     have HC16 := zM H
     clear H
     go_upto_region 6 with (fail)
     go_cut [43] (fun v43 wc => ∃ (kq : Nat) (x43_15 : Bool), v43 = .bool x43_15 ∧ Aside0 (spec_TurnBits.j2 kq l0 a2 x9_2 x11_2 x12_2 x43_15 = some (r1, r2, r3)) ∧ Aside0 (kq ≤ k2) ∧ Aside0 (Kd.R (Kd.int .i64) 3 wc w.heap.size (fun k_ => some k_ ≠ (v155 : Value).ownBlock) u9 x9_2) ∧ Aside0 (Kd.R (Kd.int .i64) 3 wc w.heap.size (fun k_ => some k_ ≠ (u9 : Value).ownBlock) v155 x11_2) ∧ Aside0 (Below w.heap.size w wc))
     case first =>
      have H := HC16.out
      clear HC16
      by_cases c17 : (x9_2.length : Int) > 0
      case neg =>
       rw [if_neg c17] at H
       have c17b0 : decide (0 < (x9_2.length : Int)) = false := decide_eq_false c17
       have c17b1 : decide (0 < x9_2.length) = false := decide_eq_false (by omega)
       clear c17
       (first | rw [c17b0] | (simp only [i64_w, i32_w]; rw [c17b0]) | skip)
       have H' := zM H
       clear H
       obtain ⟨Ao19, co19, eo19⟩ := Kd.R_slice HO_9.out
       subst eo19
       go_wp2
       go_meet
       case rel => exact ⟨_, (false), (by first | rfl | (simp; done) | (simp [*]; done)), H', ⟨by have := HJ4.out; have := HK2.out; first | omega | exact Nat.le_refl _⟩, ⟨by (with_reducible repeat (first | apply zRa | apply zRn | apply zRd)); first | exact HO_9.out | (subst_vars; exact HO_9.out)⟩, ⟨by (with_reducible repeat (first | apply zRa | apply zRn | apply zRd)); first | exact HO_11.out | (subst_vars; exact HO_11.out)⟩, ⟨by repeat (first | (with_reducible first | exact HB.out | apply zBa | apply zBn | apply zBd) | exact HB.out)⟩⟩
      rw [if_pos c17] at H
      have c17b0 : decide (0 < (x9_2.length : Int)) = true := zE c17
      have c17b1 : decide (0 < x9_2.length) = true := zE (by omega)
      clear c17
      (first | rw [c17b0] | (simp only [i64_w, i32_w]; rw [c17b0]) | skip)
      have H' := zM H
      clear H
      obtain ⟨Ao18, co18, eo18⟩ := Kd.R_slice HO_9.out
      subst eo18
      go_wp2
      go_meet
      case rel => exact ⟨_, (decide (x12_2 < a2)), (by first | rfl | (simp; done) | (simp [*]; done)), H', ⟨by have := HJ4.out; have := HK2.out; first | omega | exact Nat.le_refl _⟩, ⟨by (with_reducible repeat (first | apply zRa | apply zRn | apply zRd)); first | exact HO_9.out | (subst_vars; exact HO_9.out)⟩, ⟨by (with_reducible repeat (first | apply zRa | apply zRn | apply zRd)); first | exact HO_11.out | (subst_vars; exact HO_11.out)⟩, ⟨by repeat (first | (with_reducible first | exact HB.out | apply zBa | apply zBn | apply zBd) | exact HB.out)⟩⟩
     case rest =>
      clear HC16
      try clear c1
      try clear p2
      try clear c7
      try clear c9
      try clear c10
      try clear c12
      try clear c17
      try clear c17b0
      try clear c17b1
      try clear c19
      try clear p2
      obtain ⟨kq, x43_15, rfl, HA, HJ15, HO_9, HO_11, HB⟩ := hcut
      cases kq with
      | zero => exact absurd HA.out (by simp [spec_TurnBits.j2])
      | succ kj15 =>
       have H := HA.out
       clear HA
       simp only [spec_TurnBits.j2] at H
       by_cases c20 : x43_15 = true
       case neg =>
        replace c20 := Bool.eq_false_iff.mpr c20
        subst c20
        have H1 : (some (x11_2, x12_2, ((x9_2.length : Int) == 0))) = some (r1, r2, r3) := by rw [if_neg (show ¬ (false = true) by decide)] at H; exact H
        clear H
        have H := H1
        clear H1
        simp only [Option.some.injEq, Prod.mk.injEq] at H
        obtain ⟨rfl, rfl, rfl⟩ := H
        obtain ⟨Ao55, co55, eo55⟩ := Kd.R_slice HO_9.out
        subst eo55
        go_wp2
        go_ret3
        exact ⟨_, by first | rfl | (simp [errW_none, errW_some] <;> rfl) | (simp [*, errW_none, errW_some] <;> rfl), by (with_reducible repeat (first | apply zRa | apply zRn | apply zRd)); first | exact Kd.R_mono HO_11.out (fun _ hk => trivial) | (subst_vars; exact Kd.R_mono HO_11.out (fun _ hk => trivial)), by repeat (first | (with_reducible first | exact HB.out | apply zBa | apply zBn | apply zBd) | exact HB.out)⟩
       subst c20
       have H1 : (if 0 ≤ (x11_2.length : Int) then (if ((x11_2.length : Int) : Int).toNat ≤ 35184372088832 then (spec_TurnBits.l1 kj15 l0 a2 x9_2 x11_2 x12_2 (List.replicate ((x11_2.length : Int) : Int).toNat 0) 0 0) else (none)) else (none)) = some (r1, r2, r3) := by rw [if_pos rfl] at H; exact H
       clear H
       have H := H1
       clear H1
       by_cases c21 : 0 ≤ (x11_2.length : Int)
       case neg =>
        rw [if_neg c21] at H
        exact absurd H (by simp)
       rw [if_pos c21] at H
       have c21b0 := eq_true c21
       have c21b1 : decide (0 ≤ (x11_2.length : Int)) = true := zE c21
       clear c21
       by_cases c22 : ((x11_2.length : Int) : Int).toNat ≤ 35184372088832
       case neg =>
        rw [if_neg c22] at H
        exact absurd H (by simp)
       rw [if_pos c22] at H
       have c22b0 := eq_true c22
       have c22b1 : decide (((x11_2.length : Int) : Int).toNat ≤ 35184372088832) = true := zE c22
       clear c22
       obtain ⟨y157, hy157⟩ : ∃ y_ : List Int, y_ = (List.replicate ((x11_2.length : Int) : Int).toNat 0) := ⟨_, rfl⟩
       replace H : (spec_TurnBits.l1 kj15 l0 a2 x9_2 x11_2 x12_2 y157 0 0) = some (r1, r2, r3) := by first | (rw [hy157]; with_reducible exact H) | (have H2_ := (Option.bind_some _ _).symm.trans H; rw [hy157]; with_reducible exact H2_) | (have H2_ := (Option.bind_some _ _).symm.trans H; with_reducible exact H2_) | with_reducible exact H | (rw [hy157]; exact H) | exact H
       have Ny157 := zM hy157
       clear hy157
       have H' := zM H
       clear H
       obtain ⟨Ao23, co23, eo23⟩ := Kd.R_slice HO_11.out
       subst eo23
       go_wp2_with (first | ((with_reducible refine gate_dst (N := 46) rfl ?_); refine Kd.R_make (Kd.int .i64) _ 3 rfl (N := 46) rfl 23 _ _ rfl (x11_2.length : Int) rfl rfl Try.underlying23 (.int .i64 0) 8 info3 rfl (by decide) (by omega) 0 (ok := fun _ => True) (okp := fun _ => True) rfl (fun _ hk => hk) trivial (zT (by assumption)) (Nat.le_trans (Nat.mul_le_mul_right _ (zT (by assumption) : (x11_2.length : Int).toNat ≤ 35184372088832)) (by omega)) (Below.refl _ _) (Nat.le_refl _) ?_; intro v158 w24 ho25 hb hg_ hnew_; clear hg_ hnew_; (first | rw [← Ny157.out] at ho25 | (simp only [Int.reduceToNat] at ho25; rw [← Ny157.out] at ho25)); have n0_ := zM (Kd.R_elder' (by (with_reducible repeat (first | apply zRa | apply zRn | apply zRd)); first | exact HO_9.out | (subst_vars; exact HO_9.out)) (Kd.R_base ho25) hb); have n1_ := zM (Kd.R_elder' (by (with_reducible repeat (first | apply zRa | apply zRn | apply zRd)); first | exact HO_11.out | (subst_vars; exact HO_11.out)) (Kd.R_base ho25) hb); have n2_ := zM (Kd.R_lower (Kd.R_new' (Kd.R_new' ho25 (Kd.R_lt (by (with_reducible repeat (first | apply zRa | apply zRn | apply zRd)); first | exact HO_9.out | (subst_vars; exact HO_9.out)))) (Kd.R_lt (by (with_reducible repeat (first | apply zRa | apply zRn | apply zRd)); first | exact HO_11.out | (subst_vars; exact HO_11.out)))) (below_size (by repeat (first | (with_reducible first | exact HB.out | apply zBa | apply zBn | apply zBd) | exact HB.out)))); have n3_ := zM (below_step (by repeat (first | (with_reducible first | exact HB.out | apply zBa | apply zBn | apply zBd) | exact HB.out)) hb); clear HO_9; clear HO_11; clear HB; have HO_9 := n0_; have HO_11 := n1_; have HO159 := n2_; have HB := n3_; clear n0_ n1_ n2_ n3_; clear hb ho25))
       (try simp only [Act.put, zS1, zS2, zS3])
       go_loopg [14, 15] kj15 (fun kq v14 v15 w' => ∃ (x13_4 : List Int) (x14_4 : Int) (x15_4 : Int), v14 = .int .i64 x14_4 ∧ v15 = .int .i64 x15_4 ∧ Aside0 (spec_TurnBits.l1 kq l0 a2 x9_2 x11_2 x12_2 x13_4 x14_4 x15_4 = some (r1, r2, r3)) ∧ Aside0 (kq ≤ kj15) ∧ Aside0 (Kd.R (Kd.int .i64) 3 w' w.heap.size (fun k_ => some k_ ≠ ((.slice Ao23 x11_2.length co23) : Value).ownBlock ∧ some k_ ≠ (v158 : Value).ownBlock) u9 x9_2) ∧ Aside0 (Kd.R (Kd.int .i64) 3 w' w.heap.size (fun k_ => some k_ ≠ (u9 : Value).ownBlock ∧ some k_ ≠ (v158 : Value).ownBlock) (.slice Ao23 x11_2.length co23) x11_2) ∧ Aside0 (Kd.R (Kd.int .i64) 3 w' w.heap.size (fun k_ => some k_ ≠ (u9 : Value).ownBlock ∧ some k_ ≠ ((.slice Ao23 x11_2.length co23) : Value).ownBlock) v158 x13_4) ∧ Aside0 (Below w.heap.size w w'))
       case atStart => exact ⟨(y157), (0), (0), (by first | rfl | (simp; done) | (simp [*]; done)), (by first | rfl | (simp; done) | (simp [*]; done)), H', ⟨Nat.le_refl _⟩, ⟨by (with_reducible repeat (first | apply zRa | apply zRn | apply zRd)); first | exact HO_9.out | (subst_vars; exact HO_9.out)⟩, ⟨by (with_reducible repeat (first | apply zRa | apply zRn | apply zRd)); first | exact HO_11.out | (subst_vars; exact HO_11.out)⟩, ⟨by (with_reducible repeat (first | apply zRa | apply zRn | apply zRd)); first | exact Kd.R_mono HO159.out (fun _ hk => ⟨hk.1.2, hk.2⟩) | (subst_vars; exact Kd.R_mono HO159.out (fun _ hk => ⟨hk.1.2, hk.2⟩))⟩, ⟨by repeat (first | (with_reducible first | exact HB.out | apply zBa | apply zBn | apply zBd) | exact HB.out)⟩⟩
       case round =>
        clear H'
        try clear c1
        try clear c2
        try clear p2
        try clear c7
        try clear c9
        try clear c10
        try clear c12
        try clear c17
        try clear c17b0
        try clear c17b1
        try clear c19
        try clear c20
        try clear c21
        try clear c21b0
        try clear c21b1
        try clear c22
        try clear c22b0
        try clear c22b1
        try clear p2
        obtain ⟨x13_4, x14_4, x15_4, rfl, rfl, HA, HK4, HO_9, HO_11, HO_13, HB⟩ := hrel
        cases gk with
        | zero => exact absurd HA.out (by simp [spec_TurnBits.l1])
        | succ k4 =>
         have H := HA.out
         clear HA
         simp only [spec_TurnBits.l1] at H
         by_cases c26 : x15_4 < (x9_2.length : Int)
         case neg =>
          rw [if_neg c26] at H
          have c26b0 : decide (x15_4 < (x9_2.length : Int)) = false := decide_eq_false c26
          clear c26
          have H' := zM H
          clear H
          obtain ⟨Ao43, co43, eo43⟩ := Kd.R_slice HO_9.out
          subst eo43
          go_wp2
          (try simp only [Act.put, zS1, zS2, zS3])
          go_loopg [18] k4 (fun kq v18 w' => ∃ (x11_5 : List Int) (x18_5 : Int), v18 = .int .i64 x18_5 ∧ Aside0 (spec_TurnBits.l3 kq l0 a2 x11_5 x12_2 x13_4 x14_4 x18_5 = some (r1, r2, r3)) ∧ Aside0 (kq ≤ k4) ∧ Aside0 (Kd.R (Kd.int .i64) 3 w' w.heap.size (fun k_ => some k_ ≠ (v158 : Value).ownBlock) (.slice Ao23 x11_2.length co23) x11_5) ∧ Aside0 (Kd.R (Kd.int .i64) 3 w' w.heap.size (fun k_ => some k_ ≠ ((.slice Ao23 x11_2.length co23) : Value).ownBlock) v158 x13_4) ∧ Aside0 (Below w.heap.size w w'))
          case atStart => exact ⟨(x11_2), (0), (by first | rfl | (simp; done) | (simp [*]; done)), H', ⟨Nat.le_refl _⟩, ⟨by (with_reducible repeat (first | apply zRa | apply zRn | apply zRd)); first | exact Kd.R_mono HO_11.out (fun _ hk => hk.2) | (subst_vars; exact Kd.R_mono HO_11.out (fun _ hk => hk.2))⟩, ⟨by (with_reducible repeat (first | apply zRa | apply zRn | apply zRd)); first | exact Kd.R_mono HO_13.out (fun _ hk => hk.2) | (subst_vars; exact Kd.R_mono HO_13.out (fun _ hk => hk.2))⟩, ⟨by repeat (first | (with_reducible first | exact HB.out | apply zBa | apply zBn | apply zBd) | exact HB.out)⟩⟩
          case round =>
           clear H'
           try clear c1
           try clear p1
           try clear q1
           try clear hx1
           try clear c2
           try clear p2
           try clear c3
           try clear p3
           try clear q3
           try clear hx3
           try clear hf3
           try clear p6
           try clear c7
           try clear c9
           try clear c10
           try clear c12
           try clear c16
           try clear p16
           try clear q16
           try clear hx16
           try clear c17
           try clear c17b0
           try clear c17b1
           try clear c19
           try clear c20
           try clear c21
           try clear c21b0
           try clear c21b1
           try clear c22
           try clear c22b0
           try clear c22b1
           try clear c26
           try clear c26b0
           try clear c27
           try clear c27b0
           try clear c28
           try clear c28b0
           try clear c29
           try clear c29b0
           try clear c31
           try clear c31b0
           try clear c32
           try clear c32b0
           try clear c33
           try clear c33b0
           try clear c34
           try clear c34b0
           try clear p35
           try clear q35
           try clear hx35
           try clear hf35
           try clear c36
           try clear c36b0
           try clear hx160_0
           try clear hx161_0
           try clear hx162_0
           try clear hx163_0
           try clear hx165_0
           try clear hx166_0
           try clear hx167_0
           try clear hx168_0
           try clear hx35_0
           try clear p1
           try clear p16
           try clear p160
           try clear p161
           try clear p162
           try clear p163
           try clear p165
           try clear p166
           try clear p167
           try clear p168
           try clear p2
           try clear p35
           try clear q1
           try clear q16
           try clear q160
           try clear q161
           try clear q162
           try clear q163
           try clear q165
           try clear q166
           try clear q167
           try clear q168
           try clear q35
           obtain ⟨x11_5, x18_5, rfl, HA, HK5, HO_11, HO_13, HB⟩ := hrel
           have hl11_5 := (Kd.R_reads' HO_11.out).1
           rw [hl11_5] at HO_11
           (try simp only [hl11_5])
           (try simp only [hl11_5] at HO_13)
           cases gk with
           | zero => exact absurd HA.out (by simp [spec_TurnBits.l3])
           | succ k5 =>
            have H := HA.out
            clear HA
            simp only [spec_TurnBits.l3] at H
            by_cases c44 : x18_5 < (x11_5.length : Int)
            case neg =>
             rw [if_neg c44] at H
             have c44b0 : decide (x18_5 < (x11_5.length : Int)) = false := decide_eq_false c44
             (try (have c44w_hl11_5 := c44b0; simp only [hl11_5] at c44w_hl11_5))
             clear c44
             replace H := zO.mp H
             obtain ⟨⟨t172, t173⟩, A530, H⟩ := H
             replace H : (spec_TurnBits.l0 k5 l0 a2 t172 x11_5 (wrap64 (x12_2 + 1))) = some (r1, r2, r3) := H
             have A53 := zM A530
             clear A530
             have H' := zM H
             clear H
             go_wp2_with (first | ((with_reducible refine gate_callee (f := 10) rfl ?_); refine goesL_ (some 116) rfl rfl Try.func10 (by kernel_rfl) rfl #[.slice A0 l0.length c0, .slice Ao23 x11_5.length co23] rfl (by (try simp only [List.map_toArray, List.map_cons, List.map_nil]); first | done | rfl | (simp only [List.length_drop, List.length_take]; rfl)) ?_; (with_reducible refine (spec_Fails.calls k5 _ _ l0 _ _ x11_5 t172 t173 _ ?side1 ?side2 ?side3 ?side4 A53.out).mono ?_); (case side1 => repeat (first | exact (Kd.C_below HR0.out HB.out) | (with_reducible first | refine zCa ?_ _ | refine zCn ?_ _ | refine zCd ?_))); (case side2 => exact HC0.out); (case side3 => repeat (first | exact (Kd.R_reads' HO_11.out).2.2 | (with_reducible first | refine zCa ?_ _ | refine zCn ?_ _ | refine zCd ?_))); (case side4 => exact (Kd.R_reads' HO_11.out).2.1); rintro e w54 ⟨v174, rfl, ho0, hb⟩; refine ⟨_, rfl, ?_⟩; have n0_ := zM (Kd.R_elder' (by (with_reducible repeat (first | apply zRa | apply zRn | apply zRd)); first | exact HO_11.out | (subst_vars; exact HO_11.out)) (Kd.R_base ho0) hb); have n1_ := zM (Kd.R_elder' (by (with_reducible repeat (first | apply zRa | apply zRn | apply zRd)); first | exact HO_13.out | (subst_vars; exact HO_13.out)) (Kd.R_base ho0) hb); have n2_ := zM (Kd.R_lower (Kd.R_new' (Kd.R_new' ho0 (Kd.R_lt (by (with_reducible repeat (first | apply zRa | apply zRn | apply zRd)); first | exact HO_11.out | (subst_vars; exact HO_11.out)))) (Kd.R_lt (by (with_reducible repeat (first | apply zRa | apply zRn | apply zRd)); first | exact HO_13.out | (subst_vars; exact HO_13.out)))) (below_size (by repeat (first | (with_reducible first | exact HB.out | apply zBa | apply zBn | apply zBd) | exact HB.out)))); have n3_ := zM (below_step (by repeat (first | (with_reducible first | exact HB.out | apply zBa | apply zBn | apply zBd) | exact HB.out)) hb); clear HO_11; clear HO_13; clear HB; have HO_11 := n0_; have HO_13 := n1_; have HO175 := n2_; have HB := n3_; clear n0_ n1_ n2_ n3_; (try clear hb); (try clear hb2); (try clear hk); (try clear hi); (try clear ho0)))
             (try simp only [← hl11_5])
             go_roundg k5
             case measure => have := HJ4.out; have := HK2.out; have := HJ15.out; have := HK4.out; have := HK5.out; omega
             case rel => exact ⟨(t172), (x11_5), (wrap64 (x12_2 + 1)), (by first | rfl | (simp; done) | (simp [*]; done)), H', ⟨by have := HJ4.out; have := HK2.out; have := HJ15.out; have := HK4.out; have := HK5.out; omega⟩, ⟨by (try simp only [hl11_5]); (with_reducible repeat (first | apply zRa | apply zRn | apply zRd)); first | exact Kd.R_mono HO175.out (fun _ hk => hk.1.2) | (subst_vars; exact Kd.R_mono HO175.out (fun _ hk => hk.1.2))⟩, ⟨by (try simp only [hl11_5]); (with_reducible repeat (first | apply zRa | apply zRn | apply zRd)); first | exact Kd.R_mono HO_11.out (fun _ hk => hk.2) | (subst_vars; exact Kd.R_mono HO_11.out (fun _ hk => hk.2))⟩, ⟨by repeat (first | (with_reducible first | exact HB.out | apply zBa | apply zBn | apply zBd) | exact HB.out)⟩⟩
            rw [if_pos c44] at H
            have c44b0 : decide (x18_5 < (x11_5.length : Int)) = true := zE c44
            (try (have c44w_hl11_5 := c44b0; simp only [hl11_5] at c44w_hl11_5))
            clear c44
            by_cases c45 : 0 ≤ x18_5
            case neg =>
             rw [if_neg c45] at H
             exact absurd H (by simp)
            rw [if_pos c45] at H
            have c45b0 : decide (0 ≤ x18_5) = true := zE c45
            (try (have c45w_hl11_5 := c45b0; simp only [hl11_5] at c45w_hl11_5))
            clear c45
            by_cases c46 : x18_5 < (x13_4.length : Int)
            case neg =>
             rw [if_neg c46] at H
             exact absurd H (by simp)
            rw [if_pos c46] at H
            have c46b0 : decide (x18_5 < (x13_4.length : Int)) = true := zE c46
            (try (have c46w_hl11_5 := c46b0; simp only [hl11_5] at c46w_hl11_5))
            clear c46
            by_cases c47 : (rd x13_4 x18_5) = x14_4
            case neg =>
             rw [if_neg c47] at H
             have c47b0 : ((rd x13_4 x18_5) == x14_4) = false := beq_eq_false_iff_ne.mpr c47
             have c47b1 : ((rd x13_4 x18_5) != x14_4) = true := bne_iff_ne.mpr c47
             (try (have c47w_hl11_5 := c47b0; simp only [hl11_5] at c47w_hl11_5))
             have H' := zM H
             clear H
             obtain ⟨Ao52, co52, eo52⟩ := Kd.R_slice HO_13.out
             subst eo52
             have p169 : 0 ≤ (x18_5 : Int) := zT (by assumption)
             have q169 : x18_5 < (x13_4.length : Int) := zT (by assumption)
             obtain ⟨ad169, e169, hx169_0⟩ := Kd.at_int (Kd.R_reads' HO_13.out).2.2 x18_5 p169 q169
             cases e169
             replace p169 := eq_true p169
             replace q169 := eq_true q169
             go_wp2
             (try simp only [← hl11_5])
             go_roundg k5
             case measure => have := HJ4.out; have := HK2.out; have := HJ15.out; have := HK4.out; have := HK5.out; omega
             case rel => exact ⟨(x11_5), (wrap64 (x18_5 + 1)), (by first | rfl | (simp; done) | (simp [*]; done)), H', ⟨by have := HJ4.out; have := HK2.out; have := HJ15.out; have := HK4.out; have := HK5.out; omega⟩, ⟨by (try simp only [hl11_5]); (with_reducible repeat (first | apply zRa | apply zRn | apply zRd)); first | exact HO_11.out | (subst_vars; exact HO_11.out)⟩, ⟨by (try simp only [hl11_5]); (with_reducible repeat (first | apply zRa | apply zRn | apply zRd)); first | exact HO_13.out | (subst_vars; exact HO_13.out)⟩, ⟨by repeat (first | (with_reducible first | exact HB.out | apply zBa | apply zBn | apply zBd) | exact HB.out)⟩⟩
            rw [if_pos c47] at H
            have c47b0 : ((rd x13_4 x18_5) == x14_4) = true := beq_iff_eq.mpr c47
            have c47b1 : ((rd x13_4 x18_5) != x14_4) = false := bne_eq_false_iff_eq.mpr c47
            (try (have c47w_hl11_5 := c47b0; simp only [hl11_5] at c47w_hl11_5))
            clear c47
            obtain ⟨y171, hy171⟩ : ∃ y_ : List Int, y_ = (x11_5.set (x18_5 : Int).toNat (wrap64 (1 - (rd x11_5 x18_5)))) := ⟨_, rfl⟩
            replace H : (spec_TurnBits.l3 k5 l0 a2 y171 x12_2 x13_4 x14_4 (wrap64 (x18_5 + 1))) = some (r1, r2, r3) := by first | (rw [hy171]; with_reducible exact H) | (have H2_ := (Option.bind_some _ _).symm.trans H; rw [hy171]; with_reducible exact H2_) | (have H2_ := (Option.bind_some _ _).symm.trans H; with_reducible exact H2_) | with_reducible exact H | (rw [hy171]; exact H) | exact H
            have Ny171 := zM hy171
            clear hy171
            have H' := zM H
            clear H
            obtain ⟨Ao49, co49, eo49⟩ := Kd.R_slice HO_13.out
            subst eo49
            have p169 : 0 ≤ (x18_5 : Int) := zT (by assumption)
            have q169 : x18_5 < (x13_4.length : Int) := zT (by assumption)
            obtain ⟨ad169, e169, hx169_0⟩ := Kd.at_int (Kd.R_reads' HO_13.out).2.2 x18_5 p169 q169
            cases e169
            replace p169 := eq_true p169
            replace q169 := eq_true q169
            have p170 : 0 ≤ (x18_5 : Int) := zT (by assumption)
            have q170 : x18_5 < (x11_5.length : Int) := zT (by assumption)
            obtain ⟨ad170, e170, hx170_0⟩ := Kd.at_int (Kd.R_reads' HO_11.out).2.2 x18_5 p170 q170
            cases e170
            replace p170 := eq_true p170
            replace q170 := eq_true q170
            have p48 : 0 ≤ (x18_5 : Int) := zT (by assumption)
            have q48 : (x18_5 : Int) < ((x11_5.length : Int) : Int) := zT (by assumption)
            obtain ⟨go48, co48, eo48, gb48, gl48, cl48, HG48⟩ := Kd.R_form HO_11.out (by omega)
            (first | cases eo48 | (injection eo48 with ea_ en_ ec_; (first | subst ea_ | (injection ea_ with ea_; subst ea_)); subst ec_; clear en_))
            have GB48 := zM gb48
            have GG48 := zM HG48
            clear gb48 gl48 HG48
            (first | simp only [add_plain] at hx170_0 | skip)
            obtain ⟨hx48_0, hf48_0⟩ := Kd.R_celln 0 HO_11.out (x18_5 : Int) p48 q48
            replace p48 := eq_true p48
            replace q48 := eq_true q48
            have HP50 := Kd.R_putg HO_11.out (x18_5 : Int) (wrap64 (1 - (rd x11_5 x18_5)))
            go_wp2_with (first | ((with_reducible refine gate_store (t := 3) (p := 110) rfl ?_); refine store_event (t := 3) (p := 110) (v := ?vo_w51) (w1 := (wr.setCell ⟨go48, (x18_5 : Int).toNat, none⟩ (.int .i64 (wrap64 (1 - (rd x11_5 x18_5)))))) ?hg ?ho ?hn ?hr ?_; (case ho => rfl); (case hg => rfl); (case hn => rfl); (case hr => first | (go_simp; done) | (go_simp; rfl)); intro w51 hw; have hg : wr.grownBy w51 (some go48) := (by rw [hw]; exact HP50.2); have hp_ : Kd.R (Kd.int .i64) 3 w51 w.heap.size (fun k_ => some k_ ≠ (.slice (some ad169) x13_4.length co49 : Value).ownBlock) (.slice (some ⟨go48, 0, none⟩) x11_5.length co23) y171 := (by rw [hw, Ny171.out]; exact HP50.1); clear HP50; have n0_ := zM (hp_); have n1_ := zM (Kd.R_after (v := (.slice (some ⟨go48, 0, none⟩) x11_5.length co23)) (v1 := (.slice (some ⟨go48, 0, none⟩) x11_5.length co23)) (ok := (fun _ => True)) (by (with_reducible repeat (first | apply zRa | apply zRn | apply zRd)); first | exact Kd.R_mono HO_13.out (fun _ hk => ⟨trivial, hk⟩) | (subst_vars; exact Kd.R_mono HO_13.out (fun _ hk => ⟨trivial, hk⟩))) hg (.inl rfl)); have n2_ := zM ((by rw [hw]; exact zBs (HB.out) GB48.out : Below w.heap.size w w51)); clear HO_11; clear HO_13; clear HB; have HO_11 := n0_; have HO_13 := n1_; have HB := n2_; clear n0_ n1_ n2_; clear hg hw hp_))
            (try simp only [← hl11_5])
            go_roundg k5
            case measure => have := HJ4.out; have := HK2.out; have := HJ15.out; have := HK4.out; have := HK5.out; omega
            case rel => exact ⟨(y171), (wrap64 (x18_5 + 1)), (by first | rfl | (simp; done) | (simp [*]; done)), H', ⟨by have := HJ4.out; have := HK2.out; have := HJ15.out; have := HK4.out; have := HK5.out; omega⟩, ⟨by (try simp only [hl11_5]); (with_reducible repeat (first | apply zRa | apply zRn | apply zRd)); first | exact HO_11.out | (subst_vars; exact HO_11.out)⟩, ⟨by (try simp only [hl11_5]); (with_reducible repeat (first | apply zRa | apply zRn | apply zRd)); first | exact Kd.R_mono HO_13.out (fun _ hk => hk.2) | (subst_vars; exact Kd.R_mono HO_13.out (fun _ hk => hk.2))⟩, ⟨by repeat (first | (with_reducible first | exact HB.out | apply zBa | apply zBn | apply zBd) | exact HB.out)⟩⟩
         rw [if_pos c26] at H
         have c26b0 : decide (x15_4 < (x9_2.length : Int)) = true := zE c26
         clear c26
         by_cases c27 : 0 ≤ x15_4
         case neg =>
          rw [if_neg c27] at H
          exact absurd H (by simp)
         rw [if_pos c27] at H
         have c27b0 : decide (0 ≤ x15_4) = true := zE c27
         clear c27
         by_cases c28 : 0 ≤ (rd x9_2 x15_4)
         case neg =>
          rw [if_neg c28] at H
          exact absurd H (by simp)
         rw [if_pos c28] at H
         have c28b0 : decide (0 ≤ (rd x9_2 x15_4)) = true := zE c28
         clear c28
         by_cases c29 : (rd x9_2 x15_4) < (l0.length : Int)
         case neg =>
          rw [if_neg c29] at H
          exact absurd H (by simp)
         rw [if_pos c29] at H
         have c29b0 : decide ((rd x9_2 x15_4) < (l0.length : Int)) = true := zE c29
         clear c29
         have H' := zM H
         clear H
         obtain ⟨Ao30, co30, eo30⟩ := Kd.R_slice HO_9.out
         subst eo30
         have p160 : 0 ≤ (x15_4 : Int) := zT (by assumption)
         have q160 : x15_4 < (x9_2.length : Int) := zT (by assumption)
         obtain ⟨ad160, e160, hx160_0⟩ := Kd.at_int (Kd.R_reads' HO_9.out).2.2 x15_4 p160 q160
         cases e160
         replace p160 := eq_true p160
         replace q160 := eq_true q160
         have p161 : 0 ≤ ((rd x9_2 x15_4) : Int) := zT (by assumption)
         have q161 : (rd x9_2 x15_4) < (l0.length : Int) := zT (by assumption)
         obtain ⟨ad161, A161_0, c161_0, e161, hx161_0, hl161_0, hi161_0⟩ := at_L1 HR0.out (rd x9_2 x15_4) p161 q161
         cases e161
         replace hx161_0 := (HB.out.cell (zW w _ hx161_0)).trans hx161_0
         have HR161_0 := zM hi161_0
         have HC161_0 := zM hl161_0
         clear hi161_0 hl161_0
         replace p161 := eq_true p161
         replace q161 := eq_true q161
         go_wp2
         (try simp only [Act.put, zS1, zS2, zS3])
         go_loopg [14, 17] k4 (fun kq v14 v17 w' => ∃ (x13_5 : List Int) (x14_5 : Int) (x17_5 : Int), v14 = .int .i64 x14_5 ∧ v17 = .int .i64 x17_5 ∧ Aside0 (spec_TurnBits.l2 kq l0 a2 x9_2 x11_2 x12_2 x13_5 x14_5 x15_4 (rd_L1 l0 (rd x9_2 x15_4)) x17_5 = some (r1, r2, r3)) ∧ Aside0 (kq ≤ k4) ∧ Aside0 (Kd.R (Kd.int .i64) 3 w' w.heap.size (fun k_ => some k_ ≠ ((.slice Ao23 x11_2.length co23) : Value).ownBlock ∧ some k_ ≠ (v158 : Value).ownBlock) (.slice (some ad160) x9_2.length co30) x9_2) ∧ Aside0 (Kd.R (Kd.int .i64) 3 w' w.heap.size (fun k_ => some k_ ≠ ((.slice (some ad160) x9_2.length co30) : Value).ownBlock ∧ some k_ ≠ (v158 : Value).ownBlock) (.slice Ao23 x11_2.length co23) x11_2) ∧ Aside0 (Kd.R (Kd.int .i64) 3 w' w.heap.size (fun k_ => some k_ ≠ ((.slice (some ad160) x9_2.length co30) : Value).ownBlock ∧ some k_ ≠ ((.slice Ao23 x11_2.length co23) : Value).ownBlock) v158 x13_5) ∧ Aside0 (Below w.heap.size w w'))
         case atStart => exact ⟨(x13_4), (x14_4), (0), (by first | rfl | (simp; done) | (simp [*]; done)), (by first | rfl | (simp; done) | (simp [*]; done)), H', ⟨Nat.le_refl _⟩, ⟨by (with_reducible repeat (first | apply zRa | apply zRn | apply zRd)); first | exact HO_9.out | (subst_vars; exact HO_9.out)⟩, ⟨by (with_reducible repeat (first | apply zRa | apply zRn | apply zRd)); first | exact HO_11.out | (subst_vars; exact HO_11.out)⟩, ⟨by (with_reducible repeat (first | apply zRa | apply zRn | apply zRd)); first | exact HO_13.out | (subst_vars; exact HO_13.out)⟩, ⟨by repeat (first | (with_reducible first | exact HB.out | apply zBa | apply zBn | apply zBd) | exact HB.out)⟩⟩
         case round =>
          clear H'
          try clear c1
          try clear p1
          try clear q1
          try clear hx1
          try clear c2
          try clear p2
          try clear c7
          try clear c9
          try clear c10
          try clear c12
          try clear c16
          try clear p16
          try clear q16
          try clear hx16
          try clear c17
          try clear c17b0
          try clear c17b1
          try clear c19
          try clear c20
          try clear c21
          try clear c21b0
          try clear c21b1
          try clear c22
          try clear c22b0
          try clear c22b1
          try clear c26
          try clear c26b0
          try clear c27
          try clear c27b0
          try clear c28
          try clear c28b0
          try clear c29
          try clear c29b0
          try clear hx160_0
          try clear hx161_0
          try clear p160
          try clear p161
          try clear p2
          try clear q160
          try clear q161
          obtain ⟨x13_5, x14_5, x17_5, rfl, rfl, HA, HK5, HO_9, HO_11, HO_13, HB⟩ := hrel
          cases gk with
          | zero => exact absurd HA.out (by simp [spec_TurnBits.l2])
          | succ k5 =>
           have H := HA.out
           clear HA
           simp only [spec_TurnBits.l2] at H
           by_cases c31 : x17_5 < ((rd_L1 l0 (rd x9_2 x15_4)).length : Int)
           case neg =>
            rw [if_neg c31] at H
            have c31b0 : decide (x17_5 < ((rd_L1 l0 (rd x9_2 x15_4)).length : Int)) = false := decide_eq_false c31
            clear c31
            have H' := zM H
            clear H
            go_wp2
            go_roundg k5
            case measure => have := HJ4.out; have := HK2.out; have := HJ15.out; have := HK4.out; have := HK5.out; omega
            case rel => exact ⟨(x13_5), (x14_5), (wrap64 (x15_4 + 1)), (by first | rfl | (simp; done) | (simp [*]; done)), (by first | rfl | (simp; done) | (simp [*]; done)), H', ⟨by have := HJ4.out; have := HK2.out; have := HJ15.out; have := HK4.out; have := HK5.out; omega⟩, ⟨by (with_reducible repeat (first | apply zRa | apply zRn | apply zRd)); first | exact HO_9.out | (subst_vars; exact HO_9.out)⟩, ⟨by (with_reducible repeat (first | apply zRa | apply zRn | apply zRd)); first | exact HO_11.out | (subst_vars; exact HO_11.out)⟩, ⟨by (with_reducible repeat (first | apply zRa | apply zRn | apply zRd)); first | exact HO_13.out | (subst_vars; exact HO_13.out)⟩, ⟨by repeat (first | (with_reducible first | exact HB.out | apply zBa | apply zBn | apply zBd) | exact HB.out)⟩⟩
           rw [if_pos c31] at H
           have c31b0 : decide (x17_5 < ((rd_L1 l0 (rd x9_2 x15_4)).length : Int)) = true := zE c31
           clear c31
           by_cases c32 : 0 ≤ x17_5
           case neg =>
            rw [if_neg c32] at H
            exact absurd H (by simp)
           rw [if_pos c32] at H
           have c32b0 : decide (0 ≤ x17_5) = true := zE c32
           clear c32
           by_cases c33 : 0 ≤ (rd (rd_L1 l0 (rd x9_2 x15_4)) x17_5)
           case neg =>
            rw [if_neg c33] at H
            exact absurd H (by simp)
           rw [if_pos c33] at H
           have c33b0 : decide (0 ≤ (rd (rd_L1 l0 (rd x9_2 x15_4)) x17_5)) = true := zE c33
           clear c33
           by_cases c34 : (rd (rd_L1 l0 (rd x9_2 x15_4)) x17_5) < (x13_5.length : Int)
           case neg =>
            rw [if_neg c34] at H
            exact absurd H (by simp)
           rw [if_pos c34] at H
           have c34b0 : decide ((rd (rd_L1 l0 (rd x9_2 x15_4)) x17_5) < (x13_5.length : Int)) = true := zE c34
           clear c34
           obtain ⟨y164, hy164⟩ : ∃ y_ : List Int, y_ = (x13_5.set ((rd (rd_L1 l0 (rd x9_2 x15_4)) x17_5) : Int).toNat (wrap64 ((rd x13_5 (rd (rd_L1 l0 (rd x9_2 x15_4)) x17_5)) + 1))) := ⟨_, rfl⟩
           replace H : (if (rd y164 (rd (rd_L1 l0 (rd x9_2 x15_4)) x17_5)) > x14_5 then (spec_TurnBits.l2 k5 l0 a2 x9_2 x11_2 x12_2 y164 (rd y164 (rd (rd_L1 l0 (rd x9_2 x15_4)) x17_5)) x15_4 (rd_L1 l0 (rd x9_2 x15_4)) (wrap64 (x17_5 + 1))) else (spec_TurnBits.l2 k5 l0 a2 x9_2 x11_2 x12_2 y164 x14_5 x15_4 (rd_L1 l0 (rd x9_2 x15_4)) (wrap64 (x17_5 + 1)))) = some (r1, r2, r3) := by first | (rw [hy164]; with_reducible exact H) | (have H2_ := (Option.bind_some _ _).symm.trans H; rw [hy164]; with_reducible exact H2_) | (have H2_ := (Option.bind_some _ _).symm.trans H; with_reducible exact H2_) | with_reducible exact H | (rw [hy164]; exact H) | exact H
           have Ny164 := zM hy164
           clear hy164
           by_cases c36 : (rd y164 (rd (rd_L1 l0 (rd x9_2 x15_4)) x17_5)) > x14_5
           case neg =>
            rw [if_neg c36] at H
            have c36b0 : decide (x14_5 < (rd y164 (rd (rd_L1 l0 (rd x9_2 x15_4)) x17_5))) = false := decide_eq_false c36
            clear c36
            have H' := zM H
            clear H
            have p162 : 0 ≤ (x17_5 : Int) := zT (by assumption)
            have q162 : x17_5 < ((rd_L1 l0 (rd x9_2 x15_4)).length : Int) := zT (by assumption)
            obtain ⟨ad162, e162, hx162_0⟩ := Kd.at_int HR161_0.out x17_5 p162 q162
            cases e162
            replace hx162_0 := (HB.out.cell (zW w _ hx162_0)).trans hx162_0
            replace p162 := eq_true p162
            replace q162 := eq_true q162
            obtain ⟨Ao40, co40, eo40⟩ := Kd.R_slice HO_13.out
            subst eo40
            have p163 : 0 ≤ ((rd (rd_L1 l0 (rd x9_2 x15_4)) x17_5) : Int) := zT (by assumption)
            have q163 : (rd (rd_L1 l0 (rd x9_2 x15_4)) x17_5) < (x13_5.length : Int) := zT (by assumption)
            obtain ⟨ad163, e163, hx163_0⟩ := Kd.at_int (Kd.R_reads' HO_13.out).2.2 (rd (rd_L1 l0 (rd x9_2 x15_4)) x17_5) p163 q163
            cases e163
            replace p163 := eq_true p163
            replace q163 := eq_true q163
            have p35 : 0 ≤ ((rd (rd_L1 l0 (rd x9_2 x15_4)) x17_5) : Int) := zT (by assumption)
            have q35 : ((rd (rd_L1 l0 (rd x9_2 x15_4)) x17_5) : Int) < ((x13_5.length : Int) : Int) := zT (by assumption)
            obtain ⟨go35, co35, eo35, gb35, gl35, cl35, HG35⟩ := Kd.R_form HO_13.out (by omega)
            (first | cases eo35 | (injection eo35 with ea_ en_ ec_; (first | subst ea_ | (injection ea_ with ea_; subst ea_)); subst ec_; clear en_))
            have GB35 := zM gb35
            have GG35 := zM HG35
            clear gb35 gl35 HG35
            (first | simp only [add_plain] at hx163_0 | skip)
            obtain ⟨hx35_0, hf35_0⟩ := Kd.R_celln 0 HO_13.out ((rd (rd_L1 l0 (rd x9_2 x15_4)) x17_5) : Int) p35 q35
            replace p35 := eq_true p35
            replace q35 := eq_true q35
            have HP41 := Kd.R_putg HO_13.out ((rd (rd_L1 l0 (rd x9_2 x15_4)) x17_5) : Int) (wrap64 ((rd x13_5 (rd (rd_L1 l0 (rd x9_2 x15_4)) x17_5)) + 1))
            go_wp2_with (first | ((with_reducible refine gate_store (t := 3) (p := 74) rfl ?_); refine store_event (t := 3) (p := 74) (v := ?vo_w42) (w1 := (wr.setCell ⟨go35, ((rd (rd_L1 l0 (rd x9_2 x15_4)) x17_5) : Int).toNat, none⟩ (.int .i64 (wrap64 ((rd x13_5 (rd (rd_L1 l0 (rd x9_2 x15_4)) x17_5)) + 1))))) ?hg ?ho ?hn ?hr ?_; (case ho => rfl); (case hg => rfl); (case hn => rfl); (case hr => first | (go_simp; done) | (go_simp; rfl)); intro w42 hw; have hg : wr.grownBy w42 (some go35) := (by rw [hw]; exact HP41.2); have hp_ : Kd.R (Kd.int .i64) 3 w42 w.heap.size (fun k_ => some k_ ≠ (.slice (some ad160) x9_2.length co30 : Value).ownBlock ∧ some k_ ≠ (.slice Ao23 x11_2.length co23 : Value).ownBlock) (.slice (some ⟨go35, 0, none⟩) x13_5.length co40) y164 := (by rw [hw, Ny164.out]; exact HP41.1); clear HP41; have n0_ := zM (Kd.R_after (v := (.slice (some ⟨go35, 0, none⟩) x13_5.length co40)) (v1 := (.slice (some ⟨go35, 0, none⟩) x13_5.length co40)) (ok := (fun k_ => some k_ ≠ (.slice Ao23 x11_2.length co23 : Value).ownBlock)) (by (with_reducible repeat (first | apply zRa | apply zRn | apply zRd)); first | exact HO_9.out | (subst_vars; exact HO_9.out)) hg (.inl rfl)); have n1_ := zM (Kd.R_after (v := (.slice (some ⟨go35, 0, none⟩) x13_5.length co40)) (v1 := (.slice (some ⟨go35, 0, none⟩) x13_5.length co40)) (ok := (fun k_ => some k_ ≠ (.slice (some ad160) x9_2.length co30 : Value).ownBlock)) (by (with_reducible repeat (first | apply zRa | apply zRn | apply zRd)); first | exact HO_11.out | (subst_vars; exact HO_11.out)) hg (.inl rfl)); have n2_ := zM (hp_); have n3_ := zM ((by rw [hw]; exact zBs (HB.out) GB35.out : Below w.heap.size w w42)); clear HO_9; clear HO_11; clear HO_13; clear HB; have HO_9 := n0_; have HO_11 := n1_; have HO_13 := n2_; have HB := n3_; clear n0_ n1_ n2_ n3_; clear hg hw hp_; have p165 : 0 ≤ (x17_5 : Int) := zT (by assumption); have q165 : x17_5 < ((rd_L1 l0 (rd x9_2 x15_4)).length : Int) := zT (by assumption); obtain ⟨ad165, e165, hx165_0⟩ := Kd.at_int HR161_0.out x17_5 p165 q165; obtain rfl : ad162 = ad165 := (by injection e165); replace hx165_0 := (HB.out.cell (zW w _ hx165_0)).trans hx165_0; replace p165 := eq_true p165; replace q165 := eq_true q165; have p166 : 0 ≤ ((rd (rd_L1 l0 (rd x9_2 x15_4)) x17_5) : Int) := zT (by assumption); have q166 : (rd (rd_L1 l0 (rd x9_2 x15_4)) x17_5) < (y164.length : Int) := (by have h_ : ((rd (rd_L1 l0 (rd x9_2 x15_4)) x17_5) : Int) < ((x13_5.length : Int) : Int) := zT (by assumption); first | (have e_ := (Kd.R_reads' HO_13.out).1; omega) | simpa only [Ny164.out, List.length_set] using h_); have ql166 : (((rd (rd_L1 l0 (rd x9_2 x15_4)) x17_5) : Int) < ((x13_5.length : Int) : Int)) = True := eq_true (zT (by assumption)); obtain ⟨ad166, e166, hx166_0⟩ := Kd.at_int (Kd.R_reads' HO_13.out).2.2 (rd (rd_L1 l0 (rd x9_2 x15_4)) x17_5) p166 q166; obtain rfl : (⟨go35, 0, none⟩ : Addr) = ad166 := (by injection e166); (first | simp only [add_plain] at hx166_0 | simp only [add_at] at hx166_0 | simp only [Addr.add, Nat.zero_add] at hx166_0 | skip); replace p166 := eq_true p166; replace q166 := eq_true q166))
            go_roundg k5
            case measure => have := HJ4.out; have := HK2.out; have := HJ15.out; have := HK4.out; have := HK5.out; omega
            case rel => exact ⟨(y164), (x14_5), (wrap64 (x17_5 + 1)), (by first | rfl | (simp; done) | (simp [*]; done)), (by first | rfl | (simp; done) | (simp [*]; done)), H', ⟨by have := HJ4.out; have := HK2.out; have := HJ15.out; have := HK4.out; have := HK5.out; omega⟩, ⟨by (with_reducible repeat (first | apply zRa | apply zRn | apply zRd)); first | exact HO_9.out | (subst_vars; exact HO_9.out)⟩, ⟨by (with_reducible repeat (first | apply zRa | apply zRn | apply zRd)); first | exact HO_11.out | (subst_vars; exact HO_11.out)⟩, ⟨by (with_reducible repeat (first | apply zRa | apply zRn | apply zRd)); first | exact HO_13.out | (subst_vars; exact HO_13.out)⟩, ⟨by repeat (first | (with_reducible first | exact HB.out | apply zBa | apply zBn | apply zBd) | exact HB.out)⟩⟩
           rw [if_pos c36] at H
           have c36b0 : decide (x14_5 < (rd y164 (rd (rd_L1 l0 (rd x9_2 x15_4)) x17_5))) = true := zE c36
           clear c36
           have H' := zM H
           clear H
           have p162 : 0 ≤ (x17_5 : Int) := zT (by assumption)
           have q162 : x17_5 < ((rd_L1 l0 (rd x9_2 x15_4)).length : Int) := zT (by assumption)
           obtain ⟨ad162, e162, hx162_0⟩ := Kd.at_int HR161_0.out x17_5 p162 q162
           cases e162
           replace hx162_0 := (HB.out.cell (zW w _ hx162_0)).trans hx162_0
           replace p162 := eq_true p162
           replace q162 := eq_true q162
           obtain ⟨Ao37, co37, eo37⟩ := Kd.R_slice HO_13.out
           subst eo37
           have p163 : 0 ≤ ((rd (rd_L1 l0 (rd x9_2 x15_4)) x17_5) : Int) := zT (by assumption)
           have q163 : (rd (rd_L1 l0 (rd x9_2 x15_4)) x17_5) < (x13_5.length : Int) := zT (by assumption)
           obtain ⟨ad163, e163, hx163_0⟩ := Kd.at_int (Kd.R_reads' HO_13.out).2.2 (rd (rd_L1 l0 (rd x9_2 x15_4)) x17_5) p163 q163
           cases e163
           replace p163 := eq_true p163
           replace q163 := eq_true q163
           have p35 : 0 ≤ ((rd (rd_L1 l0 (rd x9_2 x15_4)) x17_5) : Int) := zT (by assumption)
           have q35 : ((rd (rd_L1 l0 (rd x9_2 x15_4)) x17_5) : Int) < ((x13_5.length : Int) : Int) := zT (by assumption)
           obtain ⟨go35, co35, eo35, gb35, gl35, cl35, HG35⟩ := Kd.R_form HO_13.out (by omega)
           (first | cases eo35 | (injection eo35 with ea_ en_ ec_; (first | subst ea_ | (injection ea_ with ea_; subst ea_)); subst ec_; clear en_))
           have GB35 := zM gb35
           have GG35 := zM HG35
           clear gb35 gl35 HG35
           (first | simp only [add_plain] at hx163_0 | skip)
           obtain ⟨hx35_0, hf35_0⟩ := Kd.R_celln 0 HO_13.out ((rd (rd_L1 l0 (rd x9_2 x15_4)) x17_5) : Int) p35 q35
           replace p35 := eq_true p35
           replace q35 := eq_true q35
           have HP38 := Kd.R_putg HO_13.out ((rd (rd_L1 l0 (rd x9_2 x15_4)) x17_5) : Int) (wrap64 ((rd x13_5 (rd (rd_L1 l0 (rd x9_2 x15_4)) x17_5)) + 1))
           go_wp2_with (first | ((with_reducible refine gate_store (t := 3) (p := 74) rfl ?_); refine store_event (t := 3) (p := 74) (v := ?vo_w39) (w1 := (wr.setCell ⟨go35, ((rd (rd_L1 l0 (rd x9_2 x15_4)) x17_5) : Int).toNat, none⟩ (.int .i64 (wrap64 ((rd x13_5 (rd (rd_L1 l0 (rd x9_2 x15_4)) x17_5)) + 1))))) ?hg ?ho ?hn ?hr ?_; (case ho => rfl); (case hg => rfl); (case hn => rfl); (case hr => first | (go_simp; done) | (go_simp; rfl)); intro w39 hw; have hg : wr.grownBy w39 (some go35) := (by rw [hw]; exact HP38.2); have hp_ : Kd.R (Kd.int .i64) 3 w39 w.heap.size (fun k_ => some k_ ≠ (.slice (some ad160) x9_2.length co30 : Value).ownBlock ∧ some k_ ≠ (.slice Ao23 x11_2.length co23 : Value).ownBlock) (.slice (some ⟨go35, 0, none⟩) x13_5.length co37) y164 := (by rw [hw, Ny164.out]; exact HP38.1); clear HP38; have n0_ := zM (Kd.R_after (v := (.slice (some ⟨go35, 0, none⟩) x13_5.length co37)) (v1 := (.slice (some ⟨go35, 0, none⟩) x13_5.length co37)) (ok := (fun k_ => some k_ ≠ (.slice Ao23 x11_2.length co23 : Value).ownBlock)) (by (with_reducible repeat (first | apply zRa | apply zRn | apply zRd)); first | exact HO_9.out | (subst_vars; exact HO_9.out)) hg (.inl rfl)); have n1_ := zM (Kd.R_after (v := (.slice (some ⟨go35, 0, none⟩) x13_5.length co37)) (v1 := (.slice (some ⟨go35, 0, none⟩) x13_5.length co37)) (ok := (fun k_ => some k_ ≠ (.slice (some ad160) x9_2.length co30 : Value).ownBlock)) (by (with_reducible repeat (first | apply zRa | apply zRn | apply zRd)); first | exact HO_11.out | (subst_vars; exact HO_11.out)) hg (.inl rfl)); have n2_ := zM (hp_); have n3_ := zM ((by rw [hw]; exact zBs (HB.out) GB35.out : Below w.heap.size w w39)); clear HO_9; clear HO_11; clear HO_13; clear HB; have HO_9 := n0_; have HO_11 := n1_; have HO_13 := n2_; have HB := n3_; clear n0_ n1_ n2_ n3_; clear hg hw hp_; have p165 : 0 ≤ (x17_5 : Int) := zT (by assumption); have q165 : x17_5 < ((rd_L1 l0 (rd x9_2 x15_4)).length : Int) := zT (by assumption); obtain ⟨ad165, e165, hx165_0⟩ := Kd.at_int HR161_0.out x17_5 p165 q165; obtain rfl : ad162 = ad165 := (by injection e165); replace hx165_0 := (HB.out.cell (zW w _ hx165_0)).trans hx165_0; replace p165 := eq_true p165; replace q165 := eq_true q165; have p166 : 0 ≤ ((rd (rd_L1 l0 (rd x9_2 x15_4)) x17_5) : Int) := zT (by assumption); have q166 : (rd (rd_L1 l0 (rd x9_2 x15_4)) x17_5) < (y164.length : Int) := (by have h_ : ((rd (rd_L1 l0 (rd x9_2 x15_4)) x17_5) : Int) < ((x13_5.length : Int) : Int) := zT (by assumption); first | (have e_ := (Kd.R_reads' HO_13.out).1; omega) | simpa only [Ny164.out, List.length_set] using h_); have ql166 : (((rd (rd_L1 l0 (rd x9_2 x15_4)) x17_5) : Int) < ((x13_5.length : Int) : Int)) = True := eq_true (zT (by assumption)); obtain ⟨ad166, e166, hx166_0⟩ := Kd.at_int (Kd.R_reads' HO_13.out).2.2 (rd (rd_L1 l0 (rd x9_2 x15_4)) x17_5) p166 q166; obtain rfl : (⟨go35, 0, none⟩ : Addr) = ad166 := (by injection e166); (first | simp only [add_plain] at hx166_0 | simp only [add_at] at hx166_0 | simp only [Addr.add, Nat.zero_add] at hx166_0 | skip); replace p166 := eq_true p166; replace q166 := eq_true q166; have p167 : 0 ≤ (x17_5 : Int) := zT (by assumption); have q167 : x17_5 < ((rd_L1 l0 (rd x9_2 x15_4)).length : Int) := zT (by assumption); obtain ⟨ad167, e167, hx167_0⟩ := Kd.at_int HR161_0.out x17_5 p167 q167; obtain rfl : ad162 = ad167 := (by injection e167); replace hx167_0 := (HB.out.cell (zW w _ hx167_0)).trans hx167_0; replace p167 := eq_true p167; replace q167 := eq_true q167; have p168 : 0 ≤ ((rd (rd_L1 l0 (rd x9_2 x15_4)) x17_5) : Int) := zT (by assumption); have q168 : (rd (rd_L1 l0 (rd x9_2 x15_4)) x17_5) < (y164.length : Int) := (by have h_ : ((rd (rd_L1 l0 (rd x9_2 x15_4)) x17_5) : Int) < ((x13_5.length : Int) : Int) := zT (by assumption); first | (have e_ := (Kd.R_reads' HO_13.out).1; omega) | simpa only [Ny164.out, List.length_set] using h_); have ql168 : (((rd (rd_L1 l0 (rd x9_2 x15_4)) x17_5) : Int) < ((x13_5.length : Int) : Int)) = True := eq_true (zT (by assumption)); obtain ⟨ad168, e168, hx168_0⟩ := Kd.at_int (Kd.R_reads' HO_13.out).2.2 (rd (rd_L1 l0 (rd x9_2 x15_4)) x17_5) p168 q168; obtain rfl : (⟨go35, 0, none⟩ : Addr) = ad168 := (by injection e168); (first | simp only [add_plain] at hx168_0 | simp only [add_at] at hx168_0 | simp only [Addr.add, Nat.zero_add] at hx168_0 | skip); replace p168 := eq_true p168; replace q168 := eq_true q168))
           go_roundg k5
           case measure => have := HJ4.out; have := HK2.out; have := HJ15.out; have := HK4.out; have := HK5.out; omega
           case rel => exact ⟨(y164), (rd y164 (rd (rd_L1 l0 (rd x9_2 x15_4)) x17_5)), (wrap64 (x17_5 + 1)), (by first | rfl | (simp; done) | (simp [*]; done)), (by first | rfl | (simp; done) | (simp [*]; done)), H', ⟨by have := HJ4.out; have := HK2.out; have := HJ15.out; have := HK4.out; have := HK5.out; omega⟩, ⟨by (with_reducible repeat (first | apply zRa | apply zRn | apply zRd)); first | exact HO_9.out | (subst_vars; exact HO_9.out)⟩, ⟨by (with_reducible repeat (first | apply zRa | apply zRn | apply zRd)); first | exact HO_11.out | (subst_vars; exact HO_11.out)⟩, ⟨by (with_reducible repeat (first | apply zRa | apply zRn | apply zRd)); first | exact HO_13.out | (subst_vars; exact HO_13.out)⟩, ⟨by repeat (first | (with_reducible first | exact HB.out | apply zBa | apply zBn | apply zBd) | exact HB.out)⟩⟩

/-! ### impl_roundsOk: function 39 -/
def impl_roundsOk.f (a0 : Int) : Option (Bool) := if a0 ≥ 0 then (some (decide (a0 ≤ 50))) else (some false)
set_option maxHeartbeats 8000000 in
set_option maxRecDepth 100000 in
theorem impl_roundsOk.calls (a0 : Int) (r : Bool) (w : World) (h : impl_roundsOk.f a0 = some r) :
 Calls Try.prog 39 #[.int .i64 a0] w fun e w' => e = .returned (.bool r) ∧ Drawn0 w w' := by
 have H : (if a0 ≥ 0 then (some (decide (a0 ≤ 50))) else (some false)) = some r := h
 clear h
 by_cases c2 : a0 ≥ 0
 case pos =>
  rw [if_pos c2] at H
  have c2b0 : decide (0 ≤ a0) = true := zE c2
  clear c2
  obtain rfl := zI H
  go_enter Try.func39, Try.ntmps39
  go_wp2
  go_ret
  exact ⟨by first | rfl | (simp; done) | (simp [*]; done), by repeat (first | exact Drawn0.refl _ | apply Drawn0.step)⟩
 rw [if_neg c2] at H
 have c2b0 : decide (0 ≤ a0) = false := decide_eq_false c2
 clear c2
 obtain rfl := zI H
 go_enter Try.func39, Try.ntmps39
 go_wp2
 go_ret
 exact ⟨by first | rfl | (simp; done) | (simp [*]; done), by repeat (first | exact Drawn0.refl _ | apply Drawn0.step)⟩

end Go.Proofs.Ytpphjbogijjnpaa.PFnParities
