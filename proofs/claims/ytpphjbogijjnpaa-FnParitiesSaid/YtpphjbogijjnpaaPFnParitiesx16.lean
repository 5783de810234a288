-- Written by a turned copy of the print (see the notes of this repo): plain functions and their walks. Lean checks it.
import Derived.Test.YtpphjbogijjnpaaPFnParitiesx0
import Derived.Test.YtpphjbogijjnpaaPFnParitiesx2
import Derived.Test.YtpphjbogijjnpaaPFnParitiesx5
import Derived.Test.YtpphjbogijjnpaaPFnParitiesx7
import Derived.Test.YtpphjbogijjnpaaPFnParitiesx9
import Derived.Test.YtpphjbogijjnpaaPFnParitiesx11
import Derived.Test.YtpphjbogijjnpaaPFnParitiesx12
import Derived.Test.YtpphjbogijjnpaaPFnParitiesx15
namespace Go.Proofs.Ytpphjbogijjnpaa.PFnParities
open Go.RowKit Go.Proofs.YtpphjbogijjnpaaW.PrintWords Go.Proofs.YtpphjbogijjnpaaW.PrintLast Go.Proofs.YtpphjbogijjnpaaW.PrintMore
attribute [local go_sem] max2_int min2_int max_two min_two max_three min_three max_four min_four   -- for this text's walks alone
set_option linter.unusedVariables false
set_option linter.unusedSimpArgs false

/-! ### laws_FnParities: function 6 -/
mutual
def laws_FnParities.j0 : Nat → List Int → List (List Int) → List Int → Int → List Int → Bool → Bool → Option (Bool)
 | 0, _, _, _, _, _, _, _ => none
 | k + 1, x0, x3, x4, x5, x6, x8, x61 => if x61 = true then (some false) else (laws_FnParities.l0 k x0 x3 x4 x5 x6 x8 (([] : List Int)) 0)
def laws_FnParities.l0 : Nat → List Int → List (List Int) → List Int → Int → List Int → Bool → List Int → Int → Option (Bool)
 | 0, _, _, _, _, _, _, _, _ => none
 | k + 1, x0, x3, x4, x5, x6, x8, x12, x13 => if x13 < (x4.length : Int) then ((laws_at.f x0 x13).bind fun t469 => (if x12.length < 17592186044416 then (laws_FnParities.l0 k x0 x3 x4 x5 x6 x8 (x12 ++ [Int.tmod t469 2]) (wrap64 (x13 + 1))) else (none))) else ((impl_TurnBits.f k x3 x12 x5).bind fun bt473 => ((spec_TurnBits.f k x3 x12 x5).bind fun bt478 => (if (bt473.2.2 != bt478.2.2) = true then (laws_FnParities.j2 k x3 x6 x8 bt473.1 bt473.2.2 true) else (laws_FnParities.j2 k x3 x6 x8 bt473.1 bt473.2.2 (bt473.2.1 != bt478.2.1)))))
def laws_FnParities.j2 : Nat → List (List Int) → List Int → Bool → List Int → Bool → Bool → Option (Bool)
 | 0, _, _, _, _, _, _ => none
 | k + 1, x3, x6, x8, x14, x16, x99 => if x99 = true then (some false) else (if x8 = true then ((impl_Fails.f k x3 x6).bind fun bt483 => ((impl_TurnBits.f k x3 x6 0).bind fun bt487 => (if bt483.2 = true then (if (bt483.1.length : Int) > 0 then (some false) else (if bt487.2.2 = true then (if bt487.2.1 = 0 then ((laws_sameInts.f k bt487.1 x6).bind fun t492 => (if t492 = true then (laws_FnParities.j3 k x3 x14 x16) else (some false))) else (some false)) else (some false))) else (some false)))) else (laws_FnParities.j3 k x3 x14 x16))
def laws_FnParities.j3 : Nat → List (List Int) → List Int → Bool → Option (Bool)
 | 0, _, _, _ => none
 | k + 1, x3, x14, x16 => if x16 = true then ((impl_Fails.f k x3 x14).bind fun bt493 => (if bt493.2 = true then (laws_FnParities.j4 k (decide ((bt493.1.length : Int) > 0))) else (laws_FnParities.j4 k true))) else ((impl_TurnBits.f k (([(([0, 1] : List Int)), (([1, 2] : List Int))] : List (List Int))) (([0, 1, 0] : List Int)) 5).bind fun bt530 => (if bt530.2.2 = true then (if bt530.2.1 = 1 then ((laws_sameInts.f k bt530.1 (([0, 0, 0] : List Int))).bind fun t538 => (some t538)) else (some false)) else (some false)))
def laws_FnParities.j4 : Nat → Bool → Option (Bool)
 | 0, _ => none
 | k + 1, x148 => if x148 = true then (some false) else ((impl_TurnBits.f k (([(([0, 1] : List Int)), (([1, 2] : List Int))] : List (List Int))) (([0, 1, 0] : List Int)) 5).bind fun bt509 => (if bt509.2.2 = true then (if bt509.2.1 = 1 then ((laws_sameInts.f k bt509.1 (([0, 0, 0] : List Int))).bind fun t517 => (some t517)) else (some false)) else (some false)))
end
def laws_FnParities.f (k : Nat) (l0 : List Int) : Option (Bool) := (laws_big.f l0).bind fun t448 => (if t448 = true then (some true) else ((spec_DrawPassHints.f k l0).bind fun bt449 => ((impl_PassHints.f k bt449.1 bt449.2.1 bt449.2.2).bind fun bt456 => ((spec_PassHints.f k bt449.1 bt449.2.1 bt449.2.2).bind fun bt461 => (if (bt456.2.2 != bt461.2.2) = true then (laws_FnParities.j0 k l0 bt449.1 bt449.2.1 bt449.2.2 bt456.1 bt456.2.2 true) else (laws_FnParities.j0 k l0 bt449.1 bt449.2.1 bt449.2.2 bt456.1 bt456.2.2 (bt456.2.1 != bt461.2.1)))))))
theorem laws_FnParities.mono_l : ∀ k, (∀ y0 y1 y2 y3 y4 y5 y6, LeO (laws_FnParities.j0 k y0 y1 y2 y3 y4 y5 y6) (laws_FnParities.j0 (k + 1) y0 y1 y2 y3 y4 y5 y6)) ∧ (∀ y0 y1 y2 y3 y4 y5 y6 y7, LeO (laws_FnParities.l0 k y0 y1 y2 y3 y4 y5 y6 y7) (laws_FnParities.l0 (k + 1) y0 y1 y2 y3 y4 y5 y6 y7)) ∧ (∀ y0 y1 y2 y3 y4 y5, LeO (laws_FnParities.j2 k y0 y1 y2 y3 y4 y5) (laws_FnParities.j2 (k + 1) y0 y1 y2 y3 y4 y5)) ∧ (∀ y0 y1 y2, LeO (laws_FnParities.j3 k y0 y1 y2) (laws_FnParities.j3 (k + 1) y0 y1 y2)) ∧ (∀ y0, LeO (laws_FnParities.j4 k y0) (laws_FnParities.j4 (k + 1) y0))
 | 0 => ⟨fun _ _ _ _ _ _ _ r h => by simp [laws_FnParities.j0] at h, fun _ _ _ _ _ _ _ _ r h => by simp [laws_FnParities.l0] at h, fun _ _ _ _ _ _ r h => by simp [laws_FnParities.j2] at h, fun _ _ _ r h => by simp [laws_FnParities.j3] at h, fun _ r h => by simp [laws_FnParities.j4] at h⟩
 | k + 1 => by
  obtain ⟨ih0, ih1, ih2, ih3, ih4⟩ := laws_FnParities.mono_l k
  refine ⟨?_, ?_, ?_, ?_, ?_⟩
  ·intro y0 y1 y2 y3 y4 y5 y6
   unfold laws_FnParities.j0
   repeat' first
   | (with_reducible exact ih0 _ _ _ _ _ _ _)
   | (with_reducible exact ih1 _ _ _ _ _ _ _ _)
   | (with_reducible exact ih2 _ _ _ _ _ _)
   | (with_reducible exact ih3 _ _ _)
   | (with_reducible exact ih4 _)
   | (with_reducible exact impl_Fails.mono _ _ _)
   | (with_reducible exact impl_PassHints.mono _ _ _ _)
   | (with_reducible exact impl_TurnBits.mono _ _ _ _)
   | (with_reducible exact laws_sameInts.mono _ _ _)
   | (with_reducible exact spec_DrawPassHints.mono _ _)
   | (with_reducible exact spec_PassHints.mono _ _ _ _)
   | (with_reducible exact spec_TurnBits.mono _ _ _ _)
   | (with_reducible exact LeO.refl _)
   | (with_reducible exact LeO.none _)
   | (with_reducible refine LeO.ite ?_ ?_)
   | (with_reducible refine LeO.bind ?_ (fun _ => ?_))
  ·intro y0 y1 y2 y3 y4 y5 y6 y7
   unfold laws_FnParities.l0
   repeat' first
   | (with_reducible exact ih0 _ _ _ _ _ _ _)
   | (with_reducible exact ih1 _ _ _ _ _ _ _ _)
   | (with_reducible exact ih2 _ _ _ _ _ _)
   | (with_reducible exact ih3 _ _ _)
   | (with_reducible exact ih4 _)
   | (with_reducible exact impl_Fails.mono _ _ _)
   | (with_reducible exact impl_PassHints.mono _ _ _ _)
   | (with_reducible exact impl_TurnBits.mono _ _ _ _)
   | (with_reducible exact laws_sameInts.mono _ _ _)
   | (with_reducible exact spec_DrawPassHints.mono _ _)
   | (with_reducible exact spec_PassHints.mono _ _ _ _)
   | (with_reducible exact spec_TurnBits.mono _ _ _ _)
   | (with_reducible exact LeO.refl _)
   | (with_reducible exact LeO.none _)
   | (with_reducible refine LeO.ite ?_ ?_)
   | (with_reducible refine LeO.bind ?_ (fun _ => ?_))
  ·intro y0 y1 y2 y3 y4 y5
   unfold laws_FnParities.j2
   repeat' first
   | (with_reducible exact ih0 _ _ _ _ _ _ _)
   | (with_reducible exact ih1 _ _ _ _ _ _ _ _)
   | (with_reducible exact ih2 _ _ _ _ _ _)
   | (with_reducible exact ih3 _ _ _)
   | (with_reducible exact ih4 _)
   | (with_reducible exact impl_Fails.mono _ _ _)
   | (with_reducible exact impl_PassHints.mono _ _ _ _)
   | (with_reducible exact impl_TurnBits.mono _ _ _ _)
   | (with_reducible exact laws_sameInts.mono _ _ _)
   | (with_reducible exact spec_DrawPassHints.mono _ _)
   | (with_reducible exact spec_PassHints.mono _ _ _ _)
   | (with_reducible exact spec_TurnBits.mono _ _ _ _)
   | (with_reducible exact LeO.refl _)
   | (with_reducible exact LeO.none _)
   | (with_reducible refine LeO.ite ?_ ?_)
   | (with_reducible refine LeO.bind ?_ (fun _ => ?_))
  ·intro y0 y1 y2
   unfold laws_FnParities.j3
   repeat' first
   | (with_reducible exact ih0 _ _ _ _ _ _ _)
   | (with_reducible exact ih1 _ _ _ _ _ _ _ _)
   | (with_reducible exact ih2 _ _ _ _ _ _)
   | (with_reducible exact ih3 _ _ _)
   | (with_reducible exact ih4 _)
   | (with_reducible exact impl_Fails.mono _ _ _)
   | (with_reducible exact impl_PassHints.mono _ _ _ _)
   | (with_reducible exact impl_TurnBits.mono _ _ _ _)
   | (with_reducible exact laws_sameInts.mono _ _ _)
   | (with_reducible exact spec_DrawPassHints.mono _ _)
   | (with_reducible exact spec_PassHints.mono _ _ _ _)
   | (with_reducible exact spec_TurnBits.mono _ _ _ _)
   | (with_reducible exact LeO.refl _)
   | (with_reducible exact LeO.none _)
   | (with_reducible refine LeO.ite ?_ ?_)
   | (with_reducible refine LeO.bind ?_ (fun _ => ?_))
  ·intro y0
   unfold laws_FnParities.j4
   repeat' first
   | (with_reducible exact ih0 _ _ _ _ _ _ _)
   | (with_reducible exact ih1 _ _ _ _ _ _ _ _)
   | (with_reducible exact ih2 _ _ _ _ _ _)
   | (with_reducible exact ih3 _ _ _)
   | (with_reducible exact ih4 _)
   | (with_reducible exact impl_Fails.mono _ _ _)
   | (with_reducible exact impl_PassHints.mono _ _ _ _)
   | (with_reducible exact impl_TurnBits.mono _ _ _ _)
   | (with_reducible exact laws_sameInts.mono _ _ _)
   | (with_reducible exact spec_DrawPassHints.mono _ _)
   | (with_reducible exact spec_PassHints.mono _ _ _ _)
   | (with_reducible exact spec_TurnBits.mono _ _ _ _)
   | (with_reducible exact LeO.refl _)
   | (with_reducible exact LeO.none _)
   | (with_reducible refine LeO.ite ?_ ?_)
   | (with_reducible refine LeO.bind ?_ (fun _ => ?_))
theorem laws_FnParities.mono : ∀ a0 k, LeO (laws_FnParities.f k a0) (laws_FnParities.f (k + 1) a0) := by
 intro a0 k
 obtain ⟨ih0, ih1, ih2, ih3, ih4⟩ := laws_FnParities.mono_l k
 unfold laws_FnParities.f
 repeat' first
  | (with_reducible exact ih0 _ _ _ _ _ _ _)
  | (with_reducible exact ih1 _ _ _ _ _ _ _ _)
  | (with_reducible exact ih2 _ _ _ _ _ _)
  | (with_reducible exact ih3 _ _ _)
  | (with_reducible exact ih4 _)
  | (with_reducible exact impl_Fails.mono _ _ _)
  | (with_reducible exact impl_PassHints.mono _ _ _ _)
  | (with_reducible exact impl_TurnBits.mono _ _ _ _)
  | (with_reducible exact laws_sameInts.mono _ _ _)
  | (with_reducible exact spec_DrawPassHints.mono _ _)
  | (with_reducible exact spec_PassHints.mono _ _ _ _)
  | (with_reducible exact spec_TurnBits.mono _ _ _ _)
  | (with_reducible exact LeO.refl _)
  | (with_reducible exact LeO.none _)
  | (with_reducible refine LeO.ite ?_ ?_)
  | (with_reducible refine LeO.bind ?_ (fun _ => ?_))
set_option maxHeartbeats 8000000 in
set_option maxRecDepth 100000 in
theorem laws_FnParities.calls (k : Nat) (A0 : Option Addr) (c0 : Nat) (l0 : List Int) (r : Bool) (w : World) (hr0 : Kd.C (Kd.int .u8) w A0 l0.length l0) (hc0 : l0.length ≤ c0) (hr_ : r = true) (h : laws_FnParities.f k l0 = some r) :
 Calls Try.prog 6 #[.slice A0 l0.length c0] w fun e w' => e = .returned (.bool r) ∧ Below w.heap.size w w' := by
 have HR0 := zM hr0
 have HC0 := zM hc0
 clear hr0 hc0
 have HB := zM (Below.refl w.heap.size w)
 have H : ((laws_big.f l0).bind fun t448 => (if t448 = true then (some true) else ((spec_DrawPassHints.f k l0).bind fun bt449 => ((impl_PassHints.f k bt449.1 bt449.2.1 bt449.2.2).bind fun bt456 => ((spec_PassHints.f k bt449.1 bt449.2.1 bt449.2.2).bind fun bt461 => (if (bt456.2.2 != bt461.2.2) = true then (laws_FnParities.j0 k l0 bt449.1 bt449.2.1 bt449.2.2 bt456.1 bt456.2.2 true) else (laws_FnParities.j0 k l0 bt449.1 bt449.2.1 bt449.2.2 bt456.1 bt456.2.2 (bt456.2.1 != bt461.2.1)))))))) = some r := h
 clear h
 replace H := zO.mp H
 obtain ⟨t448, A20, H⟩ := H
 replace H : (if t448 = true then (some true) else ((spec_DrawPassHints.f k l0).bind fun bt449 => ((impl_PassHints.f k bt449.1 bt449.2.1 bt449.2.2).bind fun bt456 => ((spec_PassHints.f k bt449.1 bt449.2.1 bt449.2.2).bind fun bt461 => (if (bt456.2.2 != bt461.2.2) = true then (laws_FnParities.j0 k l0 bt449.1 bt449.2.1 bt449.2.2 bt456.1 bt456.2.2 true) else (laws_FnParities.j0 k l0 bt449.1 bt449.2.1 bt449.2.2 bt456.1 bt456.2.2 (bt456.2.1 != bt461.2.1))))))) = some r := H
 have A2 := zM A20
 clear A20
 by_cases c3 : t448 = true
 case pos =>
  subst c3
  have H1 : (some true) = some r := by rw [if_pos rfl] at H; exact H
  clear H
  have H := H1
  clear H1
  obtain rfl := zI H
  go_enter Try.func6, Try.ntmps6
  go_wp2_with (first | ((with_reducible refine gate_callee (f := 23) rfl ?_); refine goesL_ (some 31) rfl rfl Try.func23 (by kernel_rfl) rfl #[.slice A0 l0.length c0] rfl (by (try simp only [List.map_toArray, List.map_cons, List.map_nil]); first | done | rfl | (simp only [List.length_drop, List.length_take]; rfl)) ?_; (with_reducible refine (laws_big.calls _ _ l0 true _ ?side1 ?side2 A2.out).mono ?_); (case side1 => repeat (first | exact HR0.out | (with_reducible first | refine zCa ?_ _ | refine zCn ?_ _ | refine zCd ?_))); (case side2 => exact HC0.out); rintro e w' ⟨rfl, ⟨nd, rfl⟩⟩; refine ⟨_, rfl, ?_⟩))
  go_ret
  exact ⟨by first | rfl | (simp [errW_none, errW_some] <;> rfl) | (simp [*, errW_none, errW_some] <;> rfl), by repeat (first | (with_reducible first | exact HB.out | apply zBa | apply zBn | apply zBd) | exact HB.out)⟩
 replace c3 := Bool.eq_false_iff.mpr c3
 subst c3
 have H1 : ((spec_DrawPassHints.f k l0).bind fun bt449 => ((impl_PassHints.f k bt449.1 bt449.2.1 bt449.2.2).bind fun bt456 => ((spec_PassHints.f k bt449.1 bt449.2.1 bt449.2.2).bind fun bt461 => (if (bt456.2.2 != bt461.2.2) = true then (laws_FnParities.j0 k l0 bt449.1 bt449.2.1 bt449.2.2 bt456.1 bt456.2.2 true) else (laws_FnParities.j0 k l0 bt449.1 bt449.2.1 bt449.2.2 bt456.1 bt456.2.2 (bt456.2.1 != bt461.2.1)))))) = some r := by rw [if_neg (show ¬ (false = true) by decide)] at H; exact H
 clear H
 have H := H1
 clear H1
 replace H := zO.mp H
 obtain ⟨⟨t449, t450, t451⟩, A40, H⟩ := H
 replace H : ((impl_PassHints.f k t449 t450 t451).bind fun bt456 => ((spec_PassHints.f k t449 t450 t451).bind fun bt461 => (if (bt456.2.2 != bt461.2.2) = true then (laws_FnParities.j0 k l0 t449 t450 t451 bt456.1 bt456.2.2 true) else (laws_FnParities.j0 k l0 t449 t450 t451 bt456.1 bt456.2.2 (bt456.2.1 != bt461.2.1))))) = some r := H
 have A4 := zM A40
 clear A40
 replace H := zO.mp H
 obtain ⟨⟨t456, t457, t458⟩, A50, H⟩ := H
 replace H : ((spec_PassHints.f k t449 t450 t451).bind fun bt461 => (if (t458 != bt461.2.2) = true then (laws_FnParities.j0 k l0 t449 t450 t451 t456 t458 true) else (laws_FnParities.j0 k l0 t449 t450 t451 t456 t458 (t457 != bt461.2.1)))) = some r := H
 have A5 := zM A50
 clear A50
 replace H := zO.mp H
 obtain ⟨⟨t461, t462, t463⟩, A60, H⟩ := H
 replace H : (if (t458 != t463) = true then (laws_FnParities.j0 k l0 t449 t450 t451 t456 t458 true) else (laws_FnParities.j0 k l0 t449 t450 t451 t456 t458 (t457 != t462))) = some r := H
 have A6 := zM A60
 clear A60
 have HC7 := zM H
 clear H
 go_enter Try.func6, Try.ntmps6
 go_upto_region 6 with (first | ((with_reducible refine gate_callee (f := 23) rfl ?_); refine goesL_ (some 31) rfl rfl Try.func23 (by kernel_rfl) rfl #[.slice A0 l0.length c0] rfl (by (try simp only [List.map_toArray, List.map_cons, List.map_nil]); first | done | rfl | (simp only [List.length_drop, List.length_take]; rfl)) ?_; (with_reducible refine (laws_big.calls _ _ l0 false _ ?side1 ?side2 A2.out).mono ?_); (case side1 => repeat (first | exact HR0.out | (with_reducible first | refine zCa ?_ _ | refine zCn ?_ _ | refine zCd ?_))); (case side2 => exact HC0.out); rintro e w' ⟨rfl, ⟨nd, rfl⟩⟩; refine ⟨_, rfl, ?_⟩) | ((with_reducible refine gate_callee (f := 24) rfl ?_); refine goesL_ (some 34) rfl rfl Try.func24 (by kernel_rfl) rfl #[.slice A0 l0.length c0] rfl (by (try simp only [List.map_toArray, List.map_cons, List.map_nil]); first | done | rfl | (simp only [List.length_drop, List.length_take]; rfl)) ?_; (with_reducible refine (spec_DrawPassHints.calls k _ _ l0 t449 t450 t451 _ ?side1 ?side2 A4.out).mono ?_); (case side1 => repeat (first | exact HR0.out | (with_reducible first | refine zCa ?_ _ | refine zCn ?_ _ | refine zCd ?_))); (case side2 => exact HC0.out); rintro e w8 ⟨v452, v454, rfl, ho0, ho1, hb⟩; refine ⟨_, rfl, ?_⟩; have n0_ := zM (Kd.N_lower (Kd.N_mono (ok' := fun k_ => some k_ ≠ (v454 : Value).ownBlock) (Kd.S_N (Kd.S_bound ho0)) (fun k_ hk_ => hk_.1)) (below_size (by repeat (first | (with_reducible first | exact HB.out | apply zBa | apply zBn | apply zBd) | exact HB.out)))); have n1_ := zM (Kd.R_lower ho1 (below_size (by repeat (first | (with_reducible first | exact HB.out | apply zBa | apply zBn | apply zBd) | exact HB.out)))); have n2_ := zM (below_step (by repeat (first | (with_reducible first | exact HB.out | apply zBa | apply zBn | apply zBd) | exact HB.out)) hb); clear HB; have HO453 := n0_; have HO455 := n1_; have HB := n2_; clear n0_ n1_ n2_; (try clear hb); (try clear hb2); (try clear hk); (try clear hi); (try clear ho0); (try clear ho1); obtain ⟨Ao9, co9, eo9⟩ := Kd.N_slice HO453.out; subst eo9; obtain ⟨Ao10, co10, eo10⟩ := Kd.R_slice HO455.out; subst eo10) | ((with_reducible refine gate_callee (f := 22) rfl ?_); refine goesL_ (some 42) rfl rfl Try.func22 (by kernel_rfl) rfl #[.slice Ao9 t449.length co9, .slice Ao10 t450.length co10, .int .i64 t451] rfl (by (try simp only [List.map_toArray, List.map_cons, List.map_nil]); first | done | rfl | (simp only [List.length_drop, List.length_take]; rfl)) ?_; (with_reducible refine (impl_PassHints.calls k _ _ t449 _ _ t450 t451 t456 t457 t458 _ ?side1 ?side2 ?side3 ?side4 A5.out).mono ?_); (case side1 => repeat (first | exact (Kd.N_reads' HO453.out).2.2 | (with_reducible first | refine zCa ?_ _ | refine zCn ?_ _ | refine zCd ?_))); (case side2 => exact (Kd.N_reads' HO453.out).2.1); (case side3 => repeat (first | exact (Kd.R_reads' HO455.out).2.2 | (with_reducible first | refine zCa ?_ _ | refine zCn ?_ _ | refine zCd ?_))); (case side4 => exact (Kd.R_reads' HO455.out).2.1); rintro e w11 ⟨v459, rfl, ho0, hb⟩; refine ⟨_, rfl, ?_⟩; have n0_ := zM (Kd.N_elder' (by (with_reducible repeat (first | apply Kd.N_alloc | apply Kd.N_drewN | apply Kd.N_drew)); first | exact HO453.out | (subst_vars; exact HO453.out)) (Kd.R_base ho0) hb); have n1_ := zM (Kd.R_elder' (by (with_reducible repeat (first | apply zRa | apply zRn | apply zRd)); first | exact HO455.out | (subst_vars; exact HO455.out)) (Kd.R_base ho0) hb); have n2_ := zM (Kd.R_lower (Kd.R_new' ho0 (Kd.R_lt (by (with_reducible repeat (first | apply zRa | apply zRn | apply zRd)); first | exact HO455.out | (subst_vars; exact HO455.out)))) (below_size (by repeat (first | (with_reducible first | exact HB.out | apply zBa | apply zBn | apply zBd) | exact HB.out)))); have n3_ := zM (below_step (by repeat (first | (with_reducible first | exact HB.out | apply zBa | apply zBn | apply zBd) | exact HB.out)) hb); clear HO453; clear HO455; clear HB; have HO453 := n0_; have HO455 := n1_; have HO460 := n2_; have HB := n3_; clear n0_ n1_ n2_ n3_; (try clear hb); (try clear hb2); (try clear hk); (try clear hi); (try clear ho0)) | ((with_reducible refine gate_callee (f := 21) rfl ?_); refine goesL_ (some 50) rfl rfl Try.func21 (by kernel_rfl) rfl #[.slice Ao9 t449.length co9, .slice Ao10 t450.length co10, .int .i64 t451] rfl (by (try simp only [List.map_toArray, List.map_cons, List.map_nil]); first | done | rfl | (simp only [List.length_drop, List.length_take]; rfl)) ?_; (with_reducible refine (spec_PassHints.calls k _ _ t449 _ _ t450 t451 t461 t462 t463 _ ?side1 ?side2 ?side3 ?side4 A6.out).mono ?_); (case side1 => repeat (first | exact (Kd.N_reads' HO453.out).2.2 | (with_reducible first | refine zCa ?_ _ | refine zCn ?_ _ | refine zCd ?_))); (case side2 => exact (Kd.N_reads' HO453.out).2.1); (case side3 => repeat (first | exact (Kd.R_reads' HO455.out).2.2 | (with_reducible first | refine zCa ?_ _ | refine zCn ?_ _ | refine zCd ?_))); (case side4 => exact (Kd.R_reads' HO455.out).2.1); rintro e w12 ⟨v464, rfl, ho0, hb⟩; refine ⟨_, rfl, ?_⟩; have n0_ := zM (Kd.N_elder' (by (with_reducible repeat (first | apply Kd.N_alloc | apply Kd.N_drewN | apply Kd.N_drew)); first | exact HO453.out | (subst_vars; exact HO453.out)) (Kd.R_base ho0) hb); have n1_ := zM (Kd.R_elder' (by (with_reducible repeat (first | apply zRa | apply zRn | apply zRd)); first | exact HO455.out | (subst_vars; exact HO455.out)) (Kd.R_base ho0) hb); have n2_ := zM (Kd.R_elder' (by (with_reducible repeat (first | apply zRa | apply zRn | apply zRd)); first | exact HO460.out | (subst_vars; exact HO460.out)) (Kd.R_base ho0) hb); have n3_ := zM (Kd.R_lower (Kd.R_new' (Kd.R_new' ho0 (Kd.R_lt (by (with_reducible repeat (first | apply zRa | apply zRn | apply zRd)); first | exact HO455.out | (subst_vars; exact HO455.out)))) (Kd.R_lt (by (with_reducible repeat (first | apply zRa | apply zRn | apply zRd)); first | exact HO460.out | (subst_vars; exact HO460.out)))) (below_size (by repeat (first | (with_reducible first | exact HB.out | apply zBa | apply zBn | apply zBd) | exact HB.out)))); have n4_ := zM (below_step (by repeat (first | (with_reducible first | exact HB.out | apply zBa | apply zBn | apply zBd) | exact HB.out)) hb); clear HO453; clear HO455; clear HO460; clear HB; have HO453 := n0_; have HO455 := n1_; have HO460 := n2_; have HO465 := n3_; have HB := n4_; clear n0_ n1_ n2_ n3_ n4_; (try clear hb); (try clear hb2); (try clear hk); (try clear hi); (try clear ho0)))
 (try simp only [Act.put, zS1, zS2, zS3])
 go_cut [61] (fun v61 wc => ∃ (kq : Nat) (x61_6 : Bool), v61 = .bool x61_6 ∧ Aside0 (laws_FnParities.j0 kq l0 t449 t450 t451 t456 t458 x61_6 = some r) ∧ Aside0 (kq ≤ k) ∧ Aside0 (Kd.N (Kd.slice 3 (Kd.int .i64)) 23 wc w.heap.size (fun k_ => some k_ ≠ ((.slice Ao10 t450.length co10) : Value).ownBlock ∧ some k_ ≠ (v459 : Value).ownBlock) (.slice Ao9 t449.length co9) t449) ∧ Aside0 (Kd.R (Kd.int .i64) 3 wc w.heap.size (fun k_ => some k_ ≠ (v459 : Value).ownBlock) (.slice Ao10 t450.length co10) t450) ∧ Aside0 (Kd.R (Kd.int .i64) 3 wc w.heap.size (fun k_ => some k_ ≠ ((.slice Ao10 t450.length co10) : Value).ownBlock) v459 t456) ∧ Aside0 (Below w.heap.size w wc))
 case first =>
  have H := HC7.out
  clear HC7
  by_cases c13 : (t458 != t463) = true
  case neg =>
   rw [if_neg c13] at H
   have c13b0 : (t458 != t463) = false := by simpa using c13
   (try (have c13b1 : decide (t458 = t463) = true := by simpa using c13))
   (try (have c13b2 : (t458 == t463) = true := by simpa using c13))
   clear c13
   (first | rw [c13b0] | (simp only [i64_w, i32_w]; rw [c13b0]) | skip)
   have H' := zM H
   clear H
   go_wp2
   go_meet
   case rel => exact ⟨_, ((t457 != t462)), (by first | rfl | (simp; done) | (simp [*]; done)), H', ⟨by first | omega | exact Nat.le_refl _⟩, ⟨by (with_reducible repeat (first | apply Kd.N_alloc | apply Kd.N_drewN | apply Kd.N_drew)); first | exact Kd.N_mono HO453.out (fun _ hk => ⟨hk.1.1, hk.1.2⟩) | (subst_vars; exact Kd.N_mono HO453.out (fun _ hk => ⟨hk.1.1, hk.1.2⟩))⟩, ⟨by (with_reducible repeat (first | apply zRa | apply zRn | apply zRd)); first | exact Kd.R_mono HO455.out (fun _ hk => hk.1.2) | (subst_vars; exact Kd.R_mono HO455.out (fun _ hk => hk.1.2))⟩, ⟨by (with_reducible repeat (first | apply zRa | apply zRn | apply zRd)); first | exact Kd.R_mono HO460.out (fun _ hk => hk.1.2) | (subst_vars; exact Kd.R_mono HO460.out (fun _ hk => hk.1.2))⟩, ⟨by repeat (first | (with_reducible first | exact HB.out | apply zBa | apply zBn | apply zBd) | exact HB.out)⟩⟩
  rw [if_pos c13] at H
  have c13b0 : (t458 != t463) = true := c13
  (try (have c13b1 : decide (t458 = t463) = false := by simpa using c13))
  (try (have c13b2 : (t458 == t463) = false := by simpa using c13))
  (try (have c13b3 : ¬ (t458 = t463) := by simpa using c13))
  clear c13
  (first | rw [c13b0] | (simp only [i64_w, i32_w]; rw [c13b0]) | skip)
  have H' := zM H
  clear H
  go_wp2
  go_meet
  case rel => exact ⟨_, (true), (by first | rfl | (simp; done) | (simp [*]; done)), H', ⟨by first | omega | exact Nat.le_refl _⟩, ⟨by (with_reducible repeat (first | apply Kd.N_alloc | apply Kd.N_drewN | apply Kd.N_drew)); first | exact Kd.N_mono HO453.out (fun _ hk => ⟨hk.1.1, hk.1.2⟩) | (subst_vars; exact Kd.N_mono HO453.out (fun _ hk => ⟨hk.1.1, hk.1.2⟩))⟩, ⟨by (with_reducible repeat (first | apply zRa | apply zRn | apply zRd)); first | exact Kd.R_mono HO455.out (fun _ hk => hk.1.2) | (subst_vars; exact Kd.R_mono HO455.out (fun _ hk => hk.1.2))⟩, ⟨by (with_reducible repeat (first | apply zRa | apply zRn | apply zRd)); first | exact Kd.R_mono HO460.out (fun _ hk => hk.1.2) | (subst_vars; exact Kd.R_mono HO460.out (fun _ hk => hk.1.2))⟩, ⟨by repeat (first | (with_reducible first | exact HB.out | apply zBa | apply zBn | apply zBd) | exact HB.out)⟩⟩
 case rest =>
  clear HC7
  try clear c1
  try clear c2
  try clear p2
  try clear c3
  try clear c6
  try clear c13
  try clear c13b0
  try clear c13b1
  try clear c13b2
  obtain ⟨kq, x61_6, rfl, HA, HJ6, HO_3, HO_4, HO_6, HB⟩ := hcut
  cases kq with
  | zero => exact absurd HA.out (by simp [laws_FnParities.j0])
  | succ kj6 =>
   have H := HA.out
   clear HA
   simp only [laws_FnParities.j0] at H
   by_cases c14 : x61_6 = true
   case pos =>
    subst c14
    have H1 : (some false) = some r := by rw [if_pos rfl] at H; exact H
    clear H
    have H := H1
    clear H1
    exact absurd (zI H) (by rw [hr_]; decide)
   replace c14 := Bool.eq_false_iff.mpr c14
   subst c14
   have H1 : (laws_FnParities.l0 kj6 l0 t449 t450 t451 t456 t458 (([] : List Int)) 0) = some r := by rw [if_neg (show ¬ (false = true) by decide)] at H; exact H
   clear H
   have H := H1
   clear H1
   obtain ⟨y466, hy466⟩ : ∃ y_ : List Int, y_ = (([] : List Int)) := ⟨_, rfl⟩
   replace H : (laws_FnParities.l0 kj6 l0 t449 t450 t451 t456 t458 y466 0) = some r := by first | (rw [hy466]; with_reducible exact H) | (have H2_ := (Option.bind_some _ _).symm.trans H; rw [hy466]; with_reducible exact H2_) | (have H2_ := (Option.bind_some _ _).symm.trans H; with_reducible exact H2_) | with_reducible exact H | (rw [hy466]; exact H) | exact H
   have Ny466 := zM hy466
   clear hy466
   have H' := zM H
   clear H
   go_wp2_with (first | ((with_reducible refine gate_dst (N := 62) rfl ?_); (try (refine gate_guard (by rfl) ?_; dsimp only)); refine Kd.R_lit (Kd.int .i64) _ 3 ?hg (N := 62) ?hd (xs := ([] : List Int)) (inner := []) (ok := fun _ => True) (okp := fun _ => True) ?hr ?hp (fun _ hk => hk) trivial (Below.refl _ _) (Nat.le_refl _) (by simp) ?_; (case hd => rfl); (case hg => rfl); (case hr => first | (go_simp; done) | (go_simp; rfl)); (case hp => exact (Reps.none _ _)); intro v467 w15 ho16 hb hg_ hnew_; clear hg_ hnew_; (first | rw [← Ny466.out] at ho16 | (simp only [Int.reduceToNat] at ho16; rw [← Ny466.out] at ho16)); have n0_ := zM (Kd.N_elder' (by (with_reducible repeat (first | apply Kd.N_alloc | apply Kd.N_drewN | apply Kd.N_drew)); first | exact HO_3.out | (subst_vars; exact HO_3.out)) (Kd.R_base ho16) hb); have n1_ := zM (Kd.R_elder' (by (with_reducible repeat (first | apply zRa | apply zRn | apply zRd)); first | exact HO_4.out | (subst_vars; exact HO_4.out)) (Kd.R_base ho16) hb); have n2_ := zM (Kd.R_elder' (by (with_reducible repeat (first | apply zRa | apply zRn | apply zRd)); first | exact HO_6.out | (subst_vars; exact HO_6.out)) (Kd.R_base ho16) hb); have n3_ := zM (Kd.R_lower (Kd.R_new' (Kd.R_new' ho16 (Kd.R_lt (by (with_reducible repeat (first | apply zRa | apply zRn | apply zRd)); first | exact HO_4.out | (subst_vars; exact HO_4.out)))) (Kd.R_lt (by (with_reducible repeat (first | apply zRa | apply zRn | apply zRd)); first | exact HO_6.out | (subst_vars; exact HO_6.out)))) (below_size (by repeat (first | (with_reducible first | exact HB.out | apply zBa | apply zBn | apply zBd) | exact HB.out)))); have n4_ := zM (below_step (by repeat (first | (with_reducible first | exact HB.out | apply zBa | apply zBn | apply zBd) | exact HB.out)) hb); clear HO_3; clear HO_4; clear HO_6; clear HB; have HO_3 := n0_; have HO_4 := n1_; have HO_6 := n2_; have HO468 := n3_; have HB := n4_; clear n0_ n1_ n2_ n3_ n4_; clear hb ho16))
   (try simp only [Act.put, zS1, zS2, zS3])
   go_loopg [12, 13] kj6 (fun kq v12 v13 w' => ∃ (x12_2 : List Int) (x13_2 : Int), v13 = .int .i64 x13_2 ∧ Aside0 (laws_FnParities.l0 kq l0 t449 t450 t451 t456 t458 x12_2 x13_2 = some r) ∧ Aside0 (kq ≤ kj6) ∧ Aside0 (Kd.N (Kd.slice 3 (Kd.int .i64)) 23 w' w.heap.size (fun k_ => some k_ ≠ ((.slice Ao10 t450.length co10) : Value).ownBlock ∧ some k_ ≠ (v459 : Value).ownBlock ∧ some k_ ≠ (v12 : Value).ownBlock) (.slice Ao9 t449.length co9) t449) ∧ Aside0 (Kd.R (Kd.int .i64) 3 w' w.heap.size (fun k_ => some k_ ≠ (v459 : Value).ownBlock ∧ some k_ ≠ (v12 : Value).ownBlock) (.slice Ao10 t450.length co10) t450) ∧ Aside0 (Kd.R (Kd.int .i64) 3 w' w.heap.size (fun k_ => some k_ ≠ ((.slice Ao10 t450.length co10) : Value).ownBlock ∧ some k_ ≠ (v12 : Value).ownBlock) v459 t456) ∧ Aside0 (Kd.R (Kd.int .i64) 3 w' w.heap.size (fun k_ => some k_ ≠ ((.slice Ao10 t450.length co10) : Value).ownBlock ∧ some k_ ≠ (v459 : Value).ownBlock) v12 x12_2) ∧ Aside0 (Below w.heap.size w w'))
   case atStart => exact ⟨(y466), (0), (by first | rfl | (simp; done) | (simp [*]; done)), H', ⟨Nat.le_refl _⟩, ⟨by (with_reducible repeat (first | apply Kd.N_alloc | apply Kd.N_drewN | apply Kd.N_drew)); first | exact Kd.N_mono HO_3.out (fun _ hk => ⟨hk.1.1, ⟨hk.1.2, hk.2⟩⟩) | (subst_vars; exact Kd.N_mono HO_3.out (fun _ hk => ⟨hk.1.1, ⟨hk.1.2, hk.2⟩⟩))⟩, ⟨by (with_reducible repeat (first | apply zRa | apply zRn | apply zRd)); first | exact HO_4.out | (subst_vars; exact HO_4.out)⟩, ⟨by (with_reducible repeat (first | apply zRa | apply zRn | apply zRd)); first | exact HO_6.out | (subst_vars; exact HO_6.out)⟩, ⟨by (with_reducible repeat (first | apply zRa | apply zRn | apply zRd)); first | exact Kd.R_mono HO468.out (fun _ hk => ⟨hk.1.2, hk.2⟩) | (subst_vars; exact Kd.R_mono HO468.out (fun _ hk => ⟨hk.1.2, hk.2⟩))⟩, ⟨by repeat (first | (with_reducible first | exact HB.out | apply zBa | apply zBn | apply zBd) | exact HB.out)⟩⟩
   case round =>
    clear H'
    try clear c1
    try clear c2
    try clear p2
    try clear c3
    try clear c6
    try clear c13
    try clear c13b0
    try clear c13b1
    try clear c13b2
    try clear c14
    try clear p2
    obtain ⟨x12_2, x13_2, rfl, HA, HK2, HO_3, HO_4, HO_6, HO_12, HB⟩ := hrel
    cases gk with
    | zero => exact absurd HA.out (by simp [laws_FnParities.l0])
    | succ k2 =>
     have H := HA.out
     clear HA
     simp only [laws_FnParities.l0] at H
     by_cases c17 : x13_2 < (t450.length : Int)
     case pos =>
      rw [if_pos c17] at H
      have c17b0 : decide (x13_2 < (t450.length : Int)) = true := zE c17
      clear c17
      replace H := zO.mp H
      obtain ⟨t469, A180, H⟩ := H
      replace H : (if x12_2.length < 17592186044416 then (laws_FnParities.l0 k2 l0 t449 t450 t451 t456 t458 (x12_2 ++ [Int.tmod t469 2]) (wrap64 (x13_2 + 1))) else (none)) = some r := H
      have A18 := zM A180
      clear A180
      by_cases c19 : x12_2.length < 17592186044416
      case neg =>
       rw [if_neg c19] at H
       exact absurd H (by simp)
      rw [if_pos c19] at H
      have LMc19 := zM c19
      clear c19
      obtain ⟨y470, hy470⟩ : ∃ y_ : List Int, y_ = (x12_2 ++ [Int.tmod t469 2]) := ⟨_, rfl⟩
      replace H : (laws_FnParities.l0 k2 l0 t449 t450 t451 t456 t458 y470 (wrap64 (x13_2 + 1))) = some r := by first | (rw [hy470]; with_reducible exact H) | (have H2_ := (Option.bind_some _ _).symm.trans H; rw [hy470]; with_reducible exact H2_) | (have H2_ := (Option.bind_some _ _).symm.trans H; with_reducible exact H2_) | with_reducible exact H | (rw [hy470]; exact H) | exact H
      have Ny470 := zM hy470
      clear hy470
      have H' := zM H
      clear H
      go_wp2_with (first | ((with_reducible refine gate_callee (f := 25) rfl ?_); refine goesL_ (some 72) rfl rfl Try.func25 (by kernel_rfl) rfl #[.slice A0 l0.length c0, .int .i64 x13_2] rfl (by (try simp only [List.map_toArray, List.map_cons, List.map_nil]); first | done | rfl | (simp only [List.length_drop, List.length_take]; rfl)) ?_; (with_reducible refine (laws_at.calls _ _ l0 x13_2 t469 _ ?side1 ?side2 A18.out).mono ?_); (case side1 => repeat (first | exact (Kd.C_below HR0.out HB.out) | (with_reducible first | refine zCa ?_ _ | refine zCn ?_ _ | refine zCd ?_))); (case side2 => exact HC0.out); rintro e w' ⟨rfl, ⟨nd, rfl⟩⟩; refine ⟨_, rfl, ?_⟩) | ((with_reducible refine gate_builtin (b := .append) (xs := #[.tmp 69, .tmp 74]) rfl ?_); (try (refine gate_guard (by rfl) ?_; dsimp only)); at_builtin; refine Kd.R_append (Kd.int .i64) (w0 := w) w.heap.size rfl (.tmp 69) (.tmp 74) 23 3 (.int .i64 0) 8 rfl Try.underlying23 info3 rfl (by decide) (by omega) u12 x12_2 (Int.tmod t469 2) [.int .i64 (Int.tmod t469 2)] (fun k_ => some k_ ≠ (.slice Ao10 t450.length co10 : Value).ownBlock ∧ some k_ ≠ (v459 : Value).ownBlock) (fun _ => False) rfl rfl ?aP (fun _ hk => hk.elim) ?aF ?aO ?aB ?aS ?aL ?_; (case aP => exact rfl); (case aB => exact (by repeat (first | (with_reducible first | exact HB.out | apply zBa | apply zBn | apply zBd) | exact HB.out))); (case aF => exact (fun k_ hk => ⟨Kd.fresh' (Kd.R_lt (by (with_reducible repeat (first | apply zRa | apply zRn | apply zRd)); first | exact HO_4.out | (subst_vars; exact HO_4.out))) k_ hk, Kd.fresh' (Kd.R_lt (by (with_reducible repeat (first | apply zRa | apply zRn | apply zRd)); first | exact HO_6.out | (subst_vars; exact HO_6.out))) k_ hk⟩)); (case aO => exact (by (with_reducible repeat (first | apply zRa | apply zRn | apply zRd)); first | exact HO_12.out | (subst_vars; exact HO_12.out))); (case aS => exact (below_size (by repeat (first | (with_reducible first | exact HB.out | apply zBa | apply zBn | apply zBd) | exact HB.out)))); (case aL => have := LMc19.out; omega); intro v471 w20 ho hb hg hat; (first | rw [← Ny470.out] at ho | (simp only [Int.reduceToNat] at ho; rw [← Ny470.out] at ho)); have n0_ := zM (Kd.N_afterv (ok := (fun k_ => some k_ ≠ (.slice Ao10 t450.length co10 : Value).ownBlock ∧ some k_ ≠ (v459 : Value).ownBlock)) (by (with_reducible repeat (first | apply Kd.N_alloc | apply Kd.N_drewN | apply Kd.N_drew)); first | exact Kd.N_mono HO_3.out (fun _ hk => ⟨⟨hk.1, hk.2.1⟩, hk.2.2⟩) | (subst_vars; exact Kd.N_mono HO_3.out (fun _ hk => ⟨⟨hk.1, hk.2.1⟩, hk.2.2⟩))) hg hat); have n1_ := zM (Kd.R_after (ok := (fun k_ => some k_ ≠ (v459 : Value).ownBlock)) (by (with_reducible repeat (first | apply zRa | apply zRn | apply zRd)); first | exact HO_4.out | (subst_vars; exact HO_4.out)) hg hat); have n2_ := zM (Kd.R_after (ok := (fun k_ => some k_ ≠ (.slice Ao10 t450.length co10 : Value).ownBlock)) (by (with_reducible repeat (first | apply zRa | apply zRn | apply zRd)); first | exact HO_6.out | (subst_vars; exact HO_6.out)) hg hat); have n3_ := zM (hb); have n4_ := zM (ho); clear HO_3; clear HO_4; clear HO_6; clear HB; clear HO_12; have HO_3 := n0_; have HO_4 := n1_; have HO_6 := n2_; have HB := n3_; have HO472 := n4_; clear n0_ n1_ n2_ n3_ n4_; clear ho hb hg hat))
      go_roundg k2
      case measure => have := HJ6.out; have := HK2.out; omega
      case rel => exact ⟨(y470), (wrap64 (x13_2 + 1)), (by first | rfl | (simp; done) | (simp [*]; done)), H', ⟨by have := HJ6.out; have := HK2.out; omega⟩, ⟨by (with_reducible repeat (first | apply Kd.N_alloc | apply Kd.N_drewN | apply Kd.N_drew)); first | exact Kd.N_mono HO_3.out (fun _ hk => ⟨hk.1.1, ⟨hk.1.2, hk.2⟩⟩) | (subst_vars; exact Kd.N_mono HO_3.out (fun _ hk => ⟨hk.1.1, ⟨hk.1.2, hk.2⟩⟩))⟩, ⟨by (with_reducible repeat (first | apply zRa | apply zRn | apply zRd)); first | exact HO_4.out | (subst_vars; exact HO_4.out)⟩, ⟨by (with_reducible repeat (first | apply zRa | apply zRn | apply zRd)); first | exact HO_6.out | (subst_vars; exact HO_6.out)⟩, ⟨by (with_reducible repeat (first | apply zRa | apply zRn | apply zRd)); first | exact HO472.out | (subst_vars; exact HO472.out)⟩, ⟨by repeat (first | (with_reducible first | exact HB.out | apply zBa | apply zBn | apply zBd) | exact HB.out)⟩⟩
     rw [if_neg c17] at H
     have c17b0 : decide (x13_2 < (t450.length : Int)) = false := decide_eq_false c17
     clear c17
     replace H := zO.mp H
     obtain ⟨⟨t473, t474, t475⟩, A210, H⟩ := H
     replace H : ((spec_TurnBits.f k2 t449 x12_2 t451).bind fun bt478 => (if (t475 != bt478.2.2) = true then (laws_FnParities.j2 k2 t449 t456 t458 t473 t475 true) else (laws_FnParities.j2 k2 t449 t456 t458 t473 t475 (t474 != bt478.2.1)))) = some r := H
     have A21 := zM A210
     clear A210
     replace H := zO.mp H
     obtain ⟨⟨t478, t479, t480⟩, A220, H⟩ := H
     replace H : (if (t475 != t480) = true then (laws_FnParities.j2 k2 t449 t456 t458 t473 t475 true) else (laws_FnParities.j2 k2 t449 t456 t458 t473 t475 (t474 != t479))) = some r := H
     have A22 := zM A220
     clear A220
     have HC23 := zM H
     clear H
     obtain ⟨Ao24, co24, eo24⟩ := Kd.R_slice HO_12.out
     subst eo24
     go_upto_region 15 with (first | ((with_reducible refine gate_callee (f := 20) rfl ?_); refine goesL_ (some 80) rfl rfl Try.func20 (by kernel_rfl) rfl #[.slice Ao9 t449.length co9, .slice Ao24 x12_2.length co24, .int .i64 t451] rfl (by (try simp only [List.map_toArray, List.map_cons, List.map_nil]); first | done | rfl | (simp only [List.length_drop, List.length_take]; rfl)) ?_; (with_reducible refine (impl_TurnBits.calls k2 _ _ t449 _ _ x12_2 t451 t473 t474 t475 _ ?side1 ?side2 ?side3 ?side4 A21.out).mono ?_); (case side1 => repeat (first | exact (Kd.N_reads' HO_3.out).2.2 | (with_reducible first | refine zCa ?_ _ | refine zCn ?_ _ | refine zCd ?_))); (case side2 => exact (Kd.N_reads' HO_3.out).2.1); (case side3 => repeat (first | exact (Kd.R_reads' HO_12.out).2.2 | (with_reducible first | refine zCa ?_ _ | refine zCn ?_ _ | refine zCd ?_))); (case side4 => exact (Kd.R_reads' HO_12.out).2.1); rintro e w25 ⟨v476, rfl, ho0, hb⟩; refine ⟨_, rfl, ?_⟩; have n0_ := zM (Kd.N_elder' (by (with_reducible repeat (first | apply Kd.N_alloc | apply Kd.N_drewN | apply Kd.N_drew)); first | exact HO_3.out | (subst_vars; exact HO_3.out)) (Kd.R_base ho0) hb); have n1_ := zM (Kd.R_elder' (by (with_reducible repeat (first | apply zRa | apply zRn | apply zRd)); first | exact HO_4.out | (subst_vars; exact HO_4.out)) (Kd.R_base ho0) hb); have n2_ := zM (Kd.R_elder' (by (with_reducible repeat (first | apply zRa | apply zRn | apply zRd)); first | exact HO_6.out | (subst_vars; exact HO_6.out)) (Kd.R_base ho0) hb); have n3_ := zM (Kd.R_elder' (by (with_reducible repeat (first | apply zRa | apply zRn | apply zRd)); first | exact HO_12.out | (subst_vars; exact HO_12.out)) (Kd.R_base ho0) hb); have n4_ := zM (Kd.R_lower (Kd.R_new' (Kd.R_new' (Kd.R_new' ho0 (Kd.R_lt (by (with_reducible repeat (first | apply zRa | apply zRn | apply zRd)); first | exact HO_4.out | (subst_vars; exact HO_4.out)))) (Kd.R_lt (by (with_reducible repeat (first | apply zRa | apply zRn | apply zRd)); first | exact HO_6.out | (subst_vars; exact HO_6.out)))) (Kd.R_lt (by (with_reducible repeat (first | apply zRa | apply zRn | apply zRd)); first | exact HO_12.out | (subst_vars; exact HO_12.out)))) (below_size (by repeat (first | (with_reducible first | exact HB.out | apply zBa | apply zBn | apply zBd) | exact HB.out)))); have n5_ := zM (below_step (by repeat (first | (with_reducible first | exact HB.out | apply zBa | apply zBn | apply zBd) | exact HB.out)) hb); clear HO_3; clear HO_4; clear HO_6; clear HO_12; clear HB; have HO_3 := n0_; have HO_4 := n1_; have HO_6 := n2_; have HO_12 := n3_; have HO477 := n4_; have HB := n5_; clear n0_ n1_ n2_ n3_ n4_ n5_; (try clear hb); (try clear hb2); (try clear hk); (try clear hi); (try clear ho0)) | ((with_reducible refine gate_callee (f := 19) rfl ?_); refine goesL_ (some 88) rfl rfl Try.func19 (by kernel_rfl) rfl #[.slice Ao9 t449.length co9, .slice Ao24 x12_2.length co24, .int .i64 t451] rfl (by (try simp only [List.map_toArray, List.map_cons, List.map_nil]); first | done | rfl | (simp only [List.length_drop, List.length_take]; rfl)) ?_; (with_reducible refine (spec_TurnBits.calls k2 _ _ t449 _ _ x12_2 t451 t478 t479 t480 _ ?side1 ?side2 ?side3 ?side4 A22.out).mono ?_); (case side1 => repeat (first | exact (Kd.N_reads' HO_3.out).2.2 | (with_reducible first | refine zCa ?_ _ | refine zCn ?_ _ | refine zCd ?_))); (case side2 => exact (Kd.N_reads' HO_3.out).2.1); (case side3 => repeat (first | exact (Kd.R_reads' HO_12.out).2.2 | (with_reducible first | refine zCa ?_ _ | refine zCn ?_ _ | refine zCd ?_))); (case side4 => exact (Kd.R_reads' HO_12.out).2.1); rintro e w26 ⟨v481, rfl, ho0, hb⟩; refine ⟨_, rfl, ?_⟩; have n0_ := zM (Kd.N_elder' (by (with_reducible repeat (first | apply Kd.N_alloc | apply Kd.N_drewN | apply Kd.N_drew)); first | exact HO_3.out | (subst_vars; exact HO_3.out)) (Kd.R_base ho0) hb); have n1_ := zM (Kd.R_elder' (by (with_reducible repeat (first | apply zRa | apply zRn | apply zRd)); first | exact HO_4.out | (subst_vars; exact HO_4.out)) (Kd.R_base ho0) hb); have n2_ := zM (Kd.R_elder' (by (with_reducible repeat (first | apply zRa | apply zRn | apply zRd)); first | exact HO_6.out | (subst_vars; exact HO_6.out)) (Kd.R_base ho0) hb); have n3_ := zM (Kd.R_elder' (by (with_reducible repeat (first | apply zRa | apply zRn | apply zRd)); first | exact HO_12.out | (subst_vars; exact HO_12.out)) (Kd.R_base ho0) hb); have n4_ := zM (Kd.R_elder' (by (with_reducible repeat (first | apply zRa | apply zRn | apply zRd)); first | exact HO477.out | (subst_vars; exact HO477.out)) (Kd.R_base ho0) hb); have n5_ := zM (Kd.R_lower (Kd.R_new' (Kd.R_new' (Kd.R_new' (Kd.R_new' ho0 (Kd.R_lt (by (with_reducible repeat (first | apply zRa | apply zRn | apply zRd)); first | exact HO_4.out | (subst_vars; exact HO_4.out)))) (Kd.R_lt (by (with_reducible repeat (first | apply zRa | apply zRn | apply zRd)); first | exact HO_6.out | (subst_vars; exact HO_6.out)))) (Kd.R_lt (by (with_reducible repeat (first | apply zRa | apply zRn | apply zRd)); first | exact HO_12.out | (subst_vars; exact HO_12.out)))) (Kd.R_lt (by (with_reducible repeat (first | apply zRa | apply zRn | apply zRd)); first | exact HO477.out | (subst_vars; exact HO477.out)))) (below_size (by repeat (first | (with_reducible first | exact HB.out | apply zBa | apply zBn | apply zBd) | exact HB.out)))); have n6_ := zM (below_step (by repeat (first | (with_reducible first | exact HB.out | apply zBa | apply zBn | apply zBd) | exact HB.out)) hb); clear HO_3; clear HO_4; clear HO_6; clear HO_12; clear HO477; clear HB; have HO_3 := n0_; have HO_4 := n1_; have HO_6 := n2_; have HO_12 := n3_; have HO477 := n4_; have HO482 := n5_; have HB := n6_; clear n0_ n1_ n2_ n3_ n4_ n5_ n6_; (try clear hb); (try clear hb2); (try clear hk); (try clear hi); (try clear ho0)))
     (try simp only [Act.put, zS1, zS2, zS3])
     go_cut [99] (fun v99 wc => ∃ (kq : Nat) (x99_22 : Bool), v99 = .bool x99_22 ∧ Aside0 (laws_FnParities.j2 kq t449 t456 t458 t473 t475 x99_22 = some r) ∧ Aside0 (kq ≤ k2) ∧ Aside0 (Kd.N (Kd.slice 3 (Kd.int .i64)) 23 wc w.heap.size (fun k_ => some k_ ≠ (v459 : Value).ownBlock ∧ some k_ ≠ (v476 : Value).ownBlock) (.slice Ao9 t449.length co9) t449) ∧ Aside0 (Kd.R (Kd.int .i64) 3 wc w.heap.size (fun k_ => some k_ ≠ (v476 : Value).ownBlock) v459 t456) ∧ Aside0 (Kd.R (Kd.int .i64) 3 wc w.heap.size (fun k_ => some k_ ≠ (v459 : Value).ownBlock) v476 t473) ∧ Aside0 (Below w.heap.size w wc))
     case first =>
      have H := HC23.out
      clear HC23
      by_cases c27 : (t475 != t480) = true
      case neg =>
       rw [if_neg c27] at H
       have c27b0 : (t475 != t480) = false := by simpa using c27
       (try (have c27b1 : decide (t475 = t480) = true := by simpa using c27))
       (try (have c27b2 : (t475 == t480) = true := by simpa using c27))
       clear c27
       (first | rw [c27b0] | (simp only [i64_w, i32_w]; rw [c27b0]) | skip)
       have H' := zM H
       clear H
       go_wp2
       go_meet
       case rel => exact ⟨_, ((t474 != t479)), (by first | rfl | (simp; done) | (simp [*]; done)), H', ⟨by have := HJ6.out; have := HK2.out; first | omega | exact Nat.le_refl _⟩, ⟨by (with_reducible repeat (first | apply Kd.N_alloc | apply Kd.N_drewN | apply Kd.N_drew)); first | exact Kd.N_mono HO_3.out (fun _ hk => ⟨hk.1.1.2.1, hk.1.2⟩) | (subst_vars; exact Kd.N_mono HO_3.out (fun _ hk => ⟨hk.1.1.2.1, hk.1.2⟩))⟩, ⟨by (with_reducible repeat (first | apply zRa | apply zRn | apply zRd)); first | exact Kd.R_mono HO_6.out (fun _ hk => hk.1.2) | (subst_vars; exact Kd.R_mono HO_6.out (fun _ hk => hk.1.2))⟩, ⟨by (with_reducible repeat (first | apply zRa | apply zRn | apply zRd)); first | exact Kd.R_mono HO477.out (fun _ hk => hk.1.1.2) | (subst_vars; exact Kd.R_mono HO477.out (fun _ hk => hk.1.1.2))⟩, ⟨by repeat (first | (with_reducible first | exact HB.out | apply zBa | apply zBn | apply zBd) | exact HB.out)⟩⟩
      rw [if_pos c27] at H
      have c27b0 : (t475 != t480) = true := c27
      (try (have c27b1 : decide (t475 = t480) = false := by simpa using c27))
      (try (have c27b2 : (t475 == t480) = false := by simpa using c27))
      (try (have c27b3 : ¬ (t475 = t480) := by simpa using c27))
      clear c27
      (first | rw [c27b0] | (simp only [i64_w, i32_w]; rw [c27b0]) | skip)
      have H' := zM H
      clear H
      go_wp2
      go_meet
      case rel => exact ⟨_, (true), (by first | rfl | (simp; done) | (simp [*]; done)), H', ⟨by have := HJ6.out; have := HK2.out; first | omega | exact Nat.le_refl _⟩, ⟨by (with_reducible repeat (first | apply Kd.N_alloc | apply Kd.N_drewN | apply Kd.N_drew)); first | exact Kd.N_mono HO_3.out (fun _ hk => ⟨hk.1.1.2.1, hk.1.2⟩) | (subst_vars; exact Kd.N_mono HO_3.out (fun _ hk => ⟨hk.1.1.2.1, hk.1.2⟩))⟩, ⟨by (with_reducible repeat (first | apply zRa | apply zRn | apply zRd)); first | exact Kd.R_mono HO_6.out (fun _ hk => hk.1.2) | (subst_vars; exact Kd.R_mono HO_6.out (fun _ hk => hk.1.2))⟩, ⟨by (with_reducible repeat (first | apply zRa | apply zRn | apply zRd)); first | exact Kd.R_mono HO477.out (fun _ hk => hk.1.1.2) | (subst_vars; exact Kd.R_mono HO477.out (fun _ hk => hk.1.1.2))⟩, ⟨by repeat (first | (with_reducible first | exact HB.out | apply zBa | apply zBn | apply zBd) | exact HB.out)⟩⟩
     case rest =>
      clear HC23
      try clear c1
      try clear c2
      try clear p2
      try clear c3
      try clear c6
      try clear p6
      try clear c13
      try clear c13b0
      try clear c13b1
      try clear c13b2
      try clear c14
      try clear c17
      try clear c17b0
      try clear c19
      try clear c20
      try clear c21
      try clear c22
      try clear c23
      try clear c24
      try clear c25
      try clear c27
      try clear c27b0
      try clear c27b1
      try clear c27b2
      try clear p2
      obtain ⟨kq, x99_22, rfl, HA, HJ22, HO_3, HO_6, HO_14, HB⟩ := hcut
      cases kq with
      | zero => exact absurd HA.out (by simp [laws_FnParities.j2])
      | succ kj22 =>
       have H := HA.out
       clear HA
       simp only [laws_FnParities.j2] at H
       by_cases c28 : x99_22 = true
       case pos =>
        subst c28
        have H1 : (some false) = some r := by rw [if_pos rfl] at H; exact H
        clear H
        have H := H1
        clear H1
        exact absurd (zI H) (by rw [hr_]; decide)
       replace c28 := Bool.eq_false_iff.mpr c28
       subst c28
       have H1 : (if t458 = true then ((impl_Fails.f kj22 t449 t456).bind fun bt483 => ((impl_TurnBits.f kj22 t449 t456 0).bind fun bt487 => (if bt483.2 = true then (if (bt483.1.length : Int) > 0 then (some false) else (if bt487.2.2 = true then (if bt487.2.1 = 0 then ((laws_sameInts.f kj22 bt487.1 t456).bind fun t492 => (if t492 = true then (laws_FnParities.j3 kj22 t449 t473 t475) else (some false))) else (some false)) else (some false))) else (some false)))) else (laws_FnParities.j3 kj22 t449 t473 t475)) = some r := by rw [if_neg (show ¬ (false = true) by decide)] at H; exact H
       clear H
       have H := H1
       clear H1
       have HC29 := zM H
       clear H
       go_upto_if 100 with (fail)
       go_cut [] (fun wc => ∃ (kq : Nat), Aside0 (laws_FnParities.j3 kq t449 t473 t475 = some r) ∧ Aside0 (kq ≤ kj22) ∧ Aside0 (Kd.N (Kd.slice 3 (Kd.int .i64)) 23 wc w.heap.size (fun k_ => some k_ ≠ (v476 : Value).ownBlock) (.slice Ao9 t449.length co9) t449) ∧ Aside0 (Kd.R (Kd.int .i64) 3 wc w.heap.size (fun _ => True) v476 t473) ∧ Aside0 (Below w.heap.size w wc))
       case first =>
        have H := HC29.out
        clear HC29
        by_cases c30 : t458 = true
        case neg =>
         replace c30 := Bool.eq_false_iff.mpr c30
         subst c30
         have H1 : (laws_FnParities.j3 kj22 t449 t473 t475) = some r := by rw [if_neg (show ¬ (false = true) by decide)] at H; exact H
         clear H
         have H := H1
         clear H1
         have H' := zM H
         clear H
         go_wp2
         go_meet
         case rel => exact ⟨_, H', ⟨by have := HJ6.out; have := HK2.out; have := HJ22.out; first | omega | exact Nat.le_refl _⟩, ⟨by (with_reducible repeat (first | apply Kd.N_alloc | apply Kd.N_drewN | apply Kd.N_drew)); first | exact Kd.N_mono HO_3.out (fun _ hk => hk.2) | (subst_vars; exact Kd.N_mono HO_3.out (fun _ hk => hk.2))⟩, ⟨by (with_reducible repeat (first | apply zRa | apply zRn | apply zRd)); first | exact Kd.R_mono HO_14.out (fun _ hk => trivial) | (subst_vars; exact Kd.R_mono HO_14.out (fun _ hk => trivial))⟩, ⟨by repeat (first | (with_reducible first | exact HB.out | apply zBa | apply zBn | apply zBd) | exact HB.out)⟩⟩
        subst c30
        have H1 : ((impl_Fails.f kj22 t449 t456).bind fun bt483 => ((impl_TurnBits.f kj22 t449 t456 0).bind fun bt487 => (if bt483.2 = true then (if (bt483.1.length : Int) > 0 then (some false) else (if bt487.2.2 = true then (if bt487.2.1 = 0 then ((laws_sameInts.f kj22 bt487.1 t456).bind fun t492 => (if t492 = true then (laws_FnParities.j3 kj22 t449 t473 t475) else (some false))) else (some false)) else (some false))) else (some false)))) = some r := by rw [if_pos rfl] at H; exact H
        clear H
        have H := H1
        clear H1
        replace H := zO.mp H
        obtain ⟨⟨t483, t484⟩, A310, H⟩ := H
        replace H : ((impl_TurnBits.f kj22 t449 t456 0).bind fun bt487 => (if t484 = true then (if (t483.length : Int) > 0 then (some false) else (if bt487.2.2 = true then (if bt487.2.1 = 0 then ((laws_sameInts.f kj22 bt487.1 t456).bind fun t492 => (if t492 = true then (laws_FnParities.j3 kj22 t449 t473 t475) else (some false))) else (some false)) else (some false))) else (some false))) = some r := H
        have A31 := zM A310
        clear A310
        replace H := zO.mp H
        obtain ⟨⟨t487, t488, t489⟩, A320, H⟩ := H
        replace H : (if t484 = true then (if (t483.length : Int) > 0 then (some false) else (if t489 = true then (if t488 = 0 then ((laws_sameInts.f kj22 t487 t456).bind fun t492 => (if t492 = true then (laws_FnParities.j3 kj22 t449 t473 t475) else (some false))) else (some false)) else (some false))) else (some false)) = some r := H
        have A32 := zM A320
        clear A320
        by_cases c33 : t484 = true
        case neg =>
         replace c33 := Bool.eq_false_iff.mpr c33
         subst c33
         have H1 : (some false) = some r := by rw [if_neg (show ¬ (false = true) by decide)] at H; exact H
         clear H
         have H := H1
         clear H1
         exact absurd (zI H) (by rw [hr_]; decide)
        subst c33
        have H1 : (if (t483.length : Int) > 0 then (some false) else (if t489 = true then (if t488 = 0 then ((laws_sameInts.f kj22 t487 t456).bind fun t492 => (if t492 = true then (laws_FnParities.j3 kj22 t449 t473 t475) else (some false))) else (some false)) else (some false))) = some r := by rw [if_pos rfl] at H; exact H
        clear H
        have H := H1
        clear H1
        by_cases c34 : (t483.length : Int) > 0
        case pos =>
         rw [if_pos c34] at H
         have c34b0 : decide (0 < (t483.length : Int)) = true := zE c34
         have c34b1 : decide (0 < t483.length) = true := zE (by omega)
         clear c34
         (first | rw [c34b0] | (simp only [i64_w, i32_w]; rw [c34b0]) | skip)
         exact absurd (zI H) (by rw [hr_]; decide)
        rw [if_neg c34] at H
        have c34b0 : decide (0 < (t483.length : Int)) = false := decide_eq_false c34
        have c34b1 : decide (0 < t483.length) = false := decide_eq_false (by omega)
        clear c34
        (first | rw [c34b0] | (simp only [i64_w, i32_w]; rw [c34b0]) | skip)
        by_cases c35 : t489 = true
        case neg =>
         replace c35 := Bool.eq_false_iff.mpr c35
         subst c35
         have H1 : (some false) = some r := by rw [if_neg (show ¬ (false = true) by decide)] at H; exact H
         clear H
         have H := H1
         clear H1
         exact absurd (zI H) (by rw [hr_]; decide)
        subst c35
        have H1 : (if t488 = 0 then ((laws_sameInts.f kj22 t487 t456).bind fun t492 => (if t492 = true then (laws_FnParities.j3 kj22 t449 t473 t475) else (some false))) else (some false)) = some r := by rw [if_pos rfl] at H; exact H
        clear H
        have H := H1
        clear H1
        by_cases c36 : t488 = 0
        case neg =>
         rw [if_neg c36] at H
         have c36b0 : (t488 == 0) = false := beq_eq_false_iff_ne.mpr c36
         have c36b1 : (t488 != 0) = true := bne_iff_ne.mpr c36
         exact absurd (zI H) (by rw [hr_]; decide)
        rw [if_pos c36] at H
        have c36b0 : (t488 == 0) = true := beq_iff_eq.mpr c36
        have c36b1 : (t488 != 0) = false := bne_eq_false_iff_eq.mpr c36
        clear c36
        replace H := zO.mp H
        obtain ⟨t492, A370, H⟩ := H
        replace H : (if t492 = true then (laws_FnParities.j3 kj22 t449 t473 t475) else (some false)) = some r := H
        have A37 := zM A370
        clear A370
        by_cases c38 : t492 = true
        case neg =>
         replace c38 := Bool.eq_false_iff.mpr c38
         subst c38
         have H1 : (some false) = some r := by rw [if_neg (show ¬ (false = true) by decide)] at H; exact H
         clear H
         have H := H1
         clear H1
         exact absurd (zI H) (by rw [hr_]; decide)
        subst c38
        have H1 : (laws_FnParities.j3 kj22 t449 t473 t475) = some r := by rw [if_pos rfl] at H; exact H
        clear H
        have H := H1
        clear H1
        have H' := zM H
        clear H
        obtain ⟨Ao39, co39, eo39⟩ := Kd.R_slice HO_6.out
        subst eo39
        go_wp2_with (first | ((with_reducible refine gate_callee (f := 13) rfl ?_); refine goesL_ (some 104) rfl rfl Try.func13 (by kernel_rfl) rfl #[.slice Ao9 t449.length co9, .slice Ao39 t456.length co39] rfl (by (try simp only [List.map_toArray, List.map_cons, List.map_nil]); first | done | rfl | (simp only [List.length_drop, List.length_take]; rfl)) ?_; (with_reducible refine (impl_Fails.calls kj22 _ _ t449 _ _ t456 t483 true _ ?side1 ?side2 ?side3 ?side4 A31.out).mono ?_); (case side1 => repeat (first | exact (Kd.N_reads' HO_3.out).2.2 | (with_reducible first | refine zCa ?_ _ | refine zCn ?_ _ | refine zCd ?_))); (case side2 => exact (Kd.N_reads' HO_3.out).2.1); (case side3 => repeat (first | exact (Kd.R_reads' HO_6.out).2.2 | (with_reducible first | refine zCa ?_ _ | refine zCn ?_ _ | refine zCd ?_))); (case side4 => exact (Kd.R_reads' HO_6.out).2.1); rintro e w40 ⟨v485, rfl, ho0, hb⟩; refine ⟨_, rfl, ?_⟩; have n0_ := zM (Kd.N_elder' (by (with_reducible repeat (first | apply Kd.N_alloc | apply Kd.N_drewN | apply Kd.N_drew)); first | exact HO_3.out | (subst_vars; exact HO_3.out)) (Kd.R_base ho0) hb); have n1_ := zM (Kd.R_elder' (by (with_reducible repeat (first | apply zRa | apply zRn | apply zRd)); first | exact HO_6.out | (subst_vars; exact HO_6.out)) (Kd.R_base ho0) hb); have n2_ := zM (Kd.R_elder' (by (with_reducible repeat (first | apply zRa | apply zRn | apply zRd)); first | exact HO_14.out | (subst_vars; exact HO_14.out)) (Kd.R_base ho0) hb); have n3_ := zM (Kd.R_lower (Kd.R_new' (Kd.R_new' ho0 (Kd.R_lt (by (with_reducible repeat (first | apply zRa | apply zRn | apply zRd)); first | exact HO_6.out | (subst_vars; exact HO_6.out)))) (Kd.R_lt (by (with_reducible repeat (first | apply zRa | apply zRn | apply zRd)); first | exact HO_14.out | (subst_vars; exact HO_14.out)))) (below_size (by repeat (first | (with_reducible first | exact HB.out | apply zBa | apply zBn | apply zBd) | exact HB.out)))); have n4_ := zM (below_step (by repeat (first | (with_reducible first | exact HB.out | apply zBa | apply zBn | apply zBd) | exact HB.out)) hb); clear HO_3; clear HO_6; clear HO_14; clear HB; have HO_3 := n0_; have HO_6 := n1_; have HO_14 := n2_; have HO486 := n3_; have HB := n4_; clear n0_ n1_ n2_ n3_ n4_; (try clear hb); (try clear hb2); (try clear hk); (try clear hi); (try clear ho0)) | ((with_reducible refine gate_callee (f := 20) rfl ?_); refine goesL_ (some 110) rfl rfl Try.func20 (by kernel_rfl) rfl #[.slice Ao9 t449.length co9, .slice Ao39 t456.length co39, .int .i64 0] rfl (by (try simp only [List.map_toArray, List.map_cons, List.map_nil]); first | done | rfl | (simp only [List.length_drop, List.length_take]; rfl)) ?_; (with_reducible refine (impl_TurnBits.calls kj22 _ _ t449 _ _ t456 0 t487 t488 true _ ?side1 ?side2 ?side3 ?side4 A32.out).mono ?_); (case side1 => repeat (first | exact (Kd.N_reads' HO_3.out).2.2 | (with_reducible first | refine zCa ?_ _ | refine zCn ?_ _ | refine zCd ?_))); (case side2 => exact (Kd.N_reads' HO_3.out).2.1); (case side3 => repeat (first | exact (Kd.R_reads' HO_6.out).2.2 | (with_reducible first | refine zCa ?_ _ | refine zCn ?_ _ | refine zCd ?_))); (case side4 => exact (Kd.R_reads' HO_6.out).2.1); rintro e w41 ⟨v490, rfl, ho0, hb⟩; refine ⟨_, rfl, ?_⟩; have n0_ := zM (Kd.N_elder' (by (with_reducible repeat (first | apply Kd.N_alloc | apply Kd.N_drewN | apply Kd.N_drew)); first | exact HO_3.out | (subst_vars; exact HO_3.out)) (Kd.R_base ho0) hb); have n1_ := zM (Kd.R_elder' (by (with_reducible repeat (first | apply zRa | apply zRn | apply zRd)); first | exact HO_6.out | (subst_vars; exact HO_6.out)) (Kd.R_base ho0) hb); have n2_ := zM (Kd.R_elder' (by (with_reducible repeat (first | apply zRa | apply zRn | apply zRd)); first | exact HO_14.out | (subst_vars; exact HO_14.out)) (Kd.R_base ho0) hb); have n3_ := zM (Kd.R_elder' (by (with_reducible repeat (first | apply zRa | apply zRn | apply zRd)); first | exact HO486.out | (subst_vars; exact HO486.out)) (Kd.R_base ho0) hb); have n4_ := zM (Kd.R_lower (Kd.R_new' (Kd.R_new' (Kd.R_new' ho0 (Kd.R_lt (by (with_reducible repeat (first | apply zRa | apply zRn | apply zRd)); first | exact HO_6.out | (subst_vars; exact HO_6.out)))) (Kd.R_lt (by (with_reducible repeat (first | apply zRa | apply zRn | apply zRd)); first | exact HO_14.out | (subst_vars; exact HO_14.out)))) (Kd.R_lt (by (with_reducible repeat (first | apply zRa | apply zRn | apply zRd)); first | exact HO486.out | (subst_vars; exact HO486.out)))) (below_size (by repeat (first | (with_reducible first | exact HB.out | apply zBa | apply zBn | apply zBd) | exact HB.out)))); have n5_ := zM (below_step (by repeat (first | (with_reducible first | exact HB.out | apply zBa | apply zBn | apply zBd) | exact HB.out)) hb); clear HO_3; clear HO_6; clear HO_14; clear HO486; clear HB; have HO_3 := n0_; have HO_6 := n1_; have HO_14 := n2_; have HO486 := n3_; have HO491 := n4_; have HB := n5_; clear n0_ n1_ n2_ n3_ n4_ n5_; (try clear hb); (try clear hb2); (try clear hk); (try clear hi); (try clear ho0); obtain ⟨Ao42, co42, eo42⟩ := Kd.R_slice HO486.out; subst eo42; obtain ⟨Ao43, co43, eo43⟩ := Kd.R_slice HO491.out; subst eo43) | (go_at_call 26; (with_reducible refine (laws_sameInts.calls kj22 _ _ t487 _ _ t456 true _ ?side1 ?side2 ?side3 ?side4 A37.out).mono ?_); (case side1 => repeat (first | exact (Kd.R_reads' HO491.out).2.2 | (with_reducible first | refine zCa ?_ _ | refine zCn ?_ _ | refine zCd ?_))); (case side2 => exact (Kd.R_reads' HO491.out).2.1); (case side3 => repeat (first | exact (Kd.R_reads' HO_6.out).2.2 | (with_reducible first | refine zCa ?_ _ | refine zCn ?_ _ | refine zCd ?_))); (case side4 => exact (Kd.R_reads' HO_6.out).2.1); rintro e w' ⟨rfl, ⟨nd, rfl⟩⟩))
        go_meet
        case rel => exact ⟨_, H', ⟨by have := HJ6.out; have := HK2.out; have := HJ22.out; first | omega | exact Nat.le_refl _⟩, ⟨by (with_reducible repeat (first | apply Kd.N_alloc | apply Kd.N_drewN | apply Kd.N_drew)); first | exact Kd.N_mono HO_3.out (fun _ hk => hk.1.1.2) | (subst_vars; exact Kd.N_mono HO_3.out (fun _ hk => hk.1.1.2))⟩, ⟨by (with_reducible repeat (first | apply zRa | apply zRn | apply zRd)); first | exact Kd.R_mono HO_14.out (fun _ hk => trivial) | (subst_vars; exact Kd.R_mono HO_14.out (fun _ hk => trivial))⟩, ⟨by repeat (first | (with_reducible first | exact HB.out | apply zBa | apply zBn | apply zBd) | exact HB.out)⟩⟩
       case rest =>
        clear HC29
        try clear c1
        try clear c2
        try clear p2
        try clear c3
        try clear c6
        try clear p6
        try clear c13
        try clear c13b0
        try clear c13b1
        try clear c13b2
        try clear c14
        try clear c17
        try clear c17b0
        try clear c19
        try clear c20
        try clear c21
        try clear c22
        try clear c23
        try clear c24
        try clear c25
        try clear c27
        try clear c27b0
        try clear c27b1
        try clear c27b2
        try clear c28
        try clear c30
        try clear c33
        try clear c34
        try clear c34b0
        try clear c34b1
        try clear c35
        try clear c36
        try clear c36b0
        try clear c36b1
        try clear c38
        try clear p2
        try clear p6
        obtain ⟨kq, HA, HJ28, HO_3, HO_14, HB⟩ := hcut
        cases kq with
        | zero => exact absurd HA.out (by simp [laws_FnParities.j3])
        | succ kj28 =>
         have H := HA.out
         clear HA
         simp only [laws_FnParities.j3] at H
         by_cases c44 : t475 = true
         case neg =>
          replace c44 := Bool.eq_false_iff.mpr c44
          subst c44
          have H1 : ((impl_TurnBits.f kj28 (([(([0, 1] : List Int)), (([1, 2] : List Int))] : List (List Int))) (([0, 1, 0] : List Int)) 5).bind fun bt530 => (if bt530.2.2 = true then (if bt530.2.1 = 1 then ((laws_sameInts.f kj28 bt530.1 (([0, 0, 0] : List Int))).bind fun t538 => (some t538)) else (some false)) else (some false))) = some r := by rw [if_neg (show ¬ (false = true) by decide)] at H; exact H
          clear H
          have H := H1
          clear H1
          obtain ⟨y518, hy518⟩ : ∃ y_ : List Int, y_ = (([0, 1] : List Int)) := ⟨_, rfl⟩
          replace H : ((impl_TurnBits.f kj28 (([y518, (([1, 2] : List Int))] : List (List Int))) (([0, 1, 0] : List Int)) 5).bind fun bt530 => (if bt530.2.2 = true then (if bt530.2.1 = 1 then ((laws_sameInts.f kj28 bt530.1 (([0, 0, 0] : List Int))).bind fun t538 => (some t538)) else (some false)) else (some false))) = some r := by first | (rw [hy518]; with_reducible exact H) | (have H2_ := (Option.bind_some _ _).symm.trans H; rw [hy518]; with_reducible exact H2_) | (have H2_ := (Option.bind_some _ _).symm.trans H; with_reducible exact H2_) | with_reducible exact H | (rw [hy518]; exact H) | exact H
          have Ny518 := zM hy518
          clear hy518
          obtain ⟨y521, hy521⟩ : ∃ y_ : List Int, y_ = (([1, 2] : List Int)) := ⟨_, rfl⟩
          replace H : ((impl_TurnBits.f kj28 (([y518, y521] : List (List Int))) (([0, 1, 0] : List Int)) 5).bind fun bt530 => (if bt530.2.2 = true then (if bt530.2.1 = 1 then ((laws_sameInts.f kj28 bt530.1 (([0, 0, 0] : List Int))).bind fun t538 => (some t538)) else (some false)) else (some false))) = some r := by first | (rw [hy521]; with_reducible exact H) | (have H2_ := (Option.bind_some _ _).symm.trans H; rw [hy521]; with_reducible exact H2_) | (have H2_ := (Option.bind_some _ _).symm.trans H; with_reducible exact H2_) | with_reducible exact H | (rw [hy521]; exact H) | exact H
          have Ny521 := zM hy521
          clear hy521
          obtain ⟨y524, hy524⟩ : ∃ y_ : List (List Int), y_ = (([y518, y521] : List (List Int))) := ⟨_, rfl⟩
          replace H : ((impl_TurnBits.f kj28 y524 (([0, 1, 0] : List Int)) 5).bind fun bt530 => (if bt530.2.2 = true then (if bt530.2.1 = 1 then ((laws_sameInts.f kj28 bt530.1 (([0, 0, 0] : List Int))).bind fun t538 => (some t538)) else (some false)) else (some false))) = some r := by first | (rw [hy524]; with_reducible exact H) | (have H2_ := (Option.bind_some _ _).symm.trans H; rw [hy524]; with_reducible exact H2_) | (have H2_ := (Option.bind_some _ _).symm.trans H; with_reducible exact H2_) | with_reducible exact H | (rw [hy524]; exact H) | exact H
          have Ny524 := zM hy524
          clear hy524
          obtain ⟨y527, hy527⟩ : ∃ y_ : List Int, y_ = (([0, 1, 0] : List Int)) := ⟨_, rfl⟩
          replace H : ((impl_TurnBits.f kj28 y524 y527 5).bind fun bt530 => (if bt530.2.2 = true then (if bt530.2.1 = 1 then ((laws_sameInts.f kj28 bt530.1 (([0, 0, 0] : List Int))).bind fun t538 => (some t538)) else (some false)) else (some false))) = some r := by first | (rw [hy527]; with_reducible exact H) | (have H2_ := (Option.bind_some _ _).symm.trans H; rw [hy527]; with_reducible exact H2_) | (have H2_ := (Option.bind_some _ _).symm.trans H; with_reducible exact H2_) | with_reducible exact H | (rw [hy527]; exact H) | exact H
          have Ny527 := zM hy527
          clear hy527
          replace H := zO.mp H
          obtain ⟨⟨t530, t531, t532⟩, A730, H⟩ := H
          replace H : (if t532 = true then (if t531 = 1 then ((laws_sameInts.f kj28 t530 (([0, 0, 0] : List Int))).bind fun t538 => (some t538)) else (some false)) else (some false)) = some r := H
          have A73 := zM A730
          clear A730
          by_cases c74 : t532 = true
          case neg =>
           replace c74 := Bool.eq_false_iff.mpr c74
           subst c74
           have H1 : (some false) = some r := by rw [if_neg (show ¬ (false = true) by decide)] at H; exact H
           clear H
           have H := H1
           clear H1
           exact absurd (zI H) (by rw [hr_]; decide)
          subst c74
          have H1 : (if t531 = 1 then ((laws_sameInts.f kj28 t530 (([0, 0, 0] : List Int))).bind fun t538 => (some t538)) else (some false)) = some r := by rw [if_pos rfl] at H; exact H
          clear H
          have H := H1
          clear H1
          by_cases c75 : t531 = 1
          case neg =>
           rw [if_neg c75] at H
           have c75b0 : (t531 == 1) = false := beq_eq_false_iff_ne.mpr c75
           have c75b1 : (t531 != 1) = true := bne_iff_ne.mpr c75
           exact absurd (zI H) (by rw [hr_]; decide)
          rw [if_pos c75] at H
          have c75b0 : (t531 == 1) = true := beq_iff_eq.mpr c75
          have c75b1 : (t531 != 1) = false := bne_eq_false_iff_eq.mpr c75
          clear c75
          obtain ⟨y535, hy535⟩ : ∃ y_ : List Int, y_ = (([0, 0, 0] : List Int)) := ⟨_, rfl⟩
          replace H : ((laws_sameInts.f kj28 t530 y535).bind fun t538 => (some t538)) = some r := by first | (rw [hy535]; with_reducible exact H) | (have H2_ := (Option.bind_some _ _).symm.trans H; rw [hy535]; with_reducible exact H2_) | (have H2_ := (Option.bind_some _ _).symm.trans H; with_reducible exact H2_) | with_reducible exact H | (rw [hy535]; exact H) | exact H
          have Ny535 := zM hy535
          clear hy535
          replace H := zO.mp H
          obtain ⟨t538, A760, H⟩ := H
          replace H : (some t538) = some r := H
          have A76 := zM A760
          clear A760
          obtain rfl := zI H
          go_wp2_with (first | ((with_reducible refine gate_dst (N := 150) rfl ?_); (try (refine gate_guard (by rfl) ?_; dsimp only)); refine Kd.R_lit (Kd.int .i64) _ 3 ?hg (N := 150) ?hd (xs := ([0, 1] : List Int)) (inner := [.int .i64 0, .int .i64 1]) (ok := fun _ => True) (okp := fun _ => True) ?hr ?hp (fun _ hk => hk) trivial (Below.refl _ _) (Nat.le_refl _) (by simp) ?_; (case hd => rfl); (case hg => rfl); (case hr => first | (go_simp; done) | (go_simp; rfl)); (case hp => exact (Reps.one (show Kd.M (Kd.int .i64) _ _ _ 0 [.int .i64 0] from rfl) (Reps.one (show Kd.M (Kd.int .i64) _ _ _ 1 [.int .i64 1] from rfl) (Reps.none _ _)))); intro v519 w77 ho78 hb hg_ hnew_; clear hg_ hnew_; (first | rw [← Ny518.out] at ho78 | (simp only [Int.reduceToNat] at ho78; rw [← Ny518.out] at ho78)); have n0_ := zM (Kd.N_elder' (by (with_reducible repeat (first | apply Kd.N_alloc | apply Kd.N_drewN | apply Kd.N_drew)); first | exact HO_3.out | (subst_vars; exact HO_3.out)) (Kd.R_base ho78) hb); have n1_ := zM (Kd.R_elder' (by (with_reducible repeat (first | apply zRa | apply zRn | apply zRd)); first | exact HO_14.out | (subst_vars; exact HO_14.out)) (Kd.R_base ho78) hb); have n2_ := zM (Kd.R_lower (Kd.R_new' ho78 (Kd.R_lt (by (with_reducible repeat (first | apply zRa | apply zRn | apply zRd)); first | exact HO_14.out | (subst_vars; exact HO_14.out)))) (below_size (by repeat (first | (with_reducible first | exact HB.out | apply zBa | apply zBn | apply zBd) | exact HB.out)))); have n3_ := zM (below_step (by repeat (first | (with_reducible first | exact HB.out | apply zBa | apply zBn | apply zBd) | exact HB.out)) hb); clear HO_3; clear HO_14; clear HB; have HO_3 := n0_; have HO_14 := n1_; have HO520 := n2_; have HB := n3_; clear n0_ n1_ n2_ n3_; clear hb ho78) | ((with_reducible refine gate_dst (N := 151) rfl ?_); (try (refine gate_guard (by rfl) ?_; dsimp only)); refine Kd.R_lit (Kd.int .i64) _ 3 ?hg (N := 151) ?hd (xs := ([1, 2] : List Int)) (inner := [.int .i64 1, .int .i64 2]) (ok := fun _ => True) (okp := fun _ => True) ?hr ?hp (fun _ hk => hk) trivial (Below.refl _ _) (Nat.le_refl _) (by simp) ?_; (case hd => rfl); (case hg => rfl); (case hr => first | (go_simp; done) | (go_simp; rfl)); (case hp => exact (Reps.one (show Kd.M (Kd.int .i64) _ _ _ 1 [.int .i64 1] from rfl) (Reps.one (show Kd.M (Kd.int .i64) _ _ _ 2 [.int .i64 2] from rfl) (Reps.none _ _)))); intro v522 w79 ho80 hb hg_ hnew_; clear hg_ hnew_; (first | rw [← Ny521.out] at ho80 | (simp only [Int.reduceToNat] at ho80; rw [← Ny521.out] at ho80)); have n0_ := zM (Kd.N_elder' (by (with_reducible repeat (first | apply Kd.N_alloc | apply Kd.N_drewN | apply Kd.N_drew)); first | exact HO_3.out | (subst_vars; exact HO_3.out)) (Kd.R_base ho80) hb); have n1_ := zM (Kd.R_elder' (by (with_reducible repeat (first | apply zRa | apply zRn | apply zRd)); first | exact HO_14.out | (subst_vars; exact HO_14.out)) (Kd.R_base ho80) hb); have n2_ := zM (Kd.R_elder' (by (with_reducible repeat (first | apply zRa | apply zRn | apply zRd)); first | exact HO520.out | (subst_vars; exact HO520.out)) (Kd.R_base ho80) hb); have n3_ := zM (Kd.R_lower (Kd.R_new' (Kd.R_new' ho80 (Kd.R_lt (by (with_reducible repeat (first | apply zRa | apply zRn | apply zRd)); first | exact HO_14.out | (subst_vars; exact HO_14.out)))) (Kd.R_lt (by (with_reducible repeat (first | apply zRa | apply zRn | apply zRd)); first | exact HO520.out | (subst_vars; exact HO520.out)))) (below_size (by repeat (first | (with_reducible first | exact HB.out | apply zBa | apply zBn | apply zBd) | exact HB.out)))); have n4_ := zM (below_step (by repeat (first | (with_reducible first | exact HB.out | apply zBa | apply zBn | apply zBd) | exact HB.out)) hb); clear HO_3; clear HO_14; clear HO520; clear HB; have HO_3 := n0_; have HO_14 := n1_; have HO520 := n2_; have HO523 := n3_; have HB := n4_; clear n0_ n1_ n2_ n3_ n4_; clear hb ho80; obtain ⟨Ao81, co81, eo81⟩ := Kd.R_slice HO520.out; subst eo81; obtain ⟨Ao82, co82, eo82⟩ := Kd.R_slice HO523.out; subst eo82) | ((with_reducible refine gate_dst (N := 152) rfl ?_); (try (refine gate_guard (by rfl) ?_; dsimp only)); refine Kd.N_lit (Kd.slice 3 (Kd.int .i64)) _ 23 ?hg (N' := 152) ?hd (xs := ([y518, y521] : List (List Int))) (inner := [.slice Ao81 y518.length co81, .slice Ao82 y521.length co82]) (ok := (fun k_ => some k_ ≠ (.slice Ao9 t449.length co9 : Value).ownBlock ∧ some k_ ≠ (v476 : Value).ownBlock)) (okp := (fun k_ => some k_ ≠ (.slice Ao9 t449.length co9 : Value).ownBlock ∧ some k_ ≠ (v476 : Value).ownBlock)) ?hr ?hp (fun _ hk => hk) ((show ∀ k_, w79.heap.size ≤ k_ → (fun k_ => some k_ ≠ (.slice Ao9 t449.length co9 : Value).ownBlock ∧ some k_ ≠ (v476 : Value).ownBlock) k_ from fun k_ hk => ⟨Kd.fresh' (Kd.N_lt (by (with_reducible repeat (first | apply Kd.N_alloc | apply Kd.N_drewN | apply Kd.N_drew)); first | exact HO_3.out | (subst_vars; exact HO_3.out))) k_ hk, Kd.fresh' (Kd.R_lt (by (with_reducible repeat (first | apply zRa | apply zRn | apply zRd)); first | exact HO_14.out | (subst_vars; exact HO_14.out))) k_ hk⟩) _ (Nat.le_refl _)) (Below.refl _ _) (Nat.le_refl _) (by simp) ?_; (case hd => rfl); (case hg => rfl); (case hr => first | (go_simp; done) | (go_simp; rfl)); (case hp => exact (Reps.one (show Kd.FK (Kd.slice 3 (Kd.int .i64)) _ _ y518 [.slice Ao81 y518.length co81] from (Kd.FK_slice_mk (Kd.R_reads' (Kd.R_mono (ok' := (fun k_ => some k_ ≠ (.slice Ao9 t449.length co9 : Value).ownBlock ∧ some k_ ≠ (v476 : Value).ownBlock)) (Kd.R_apart' (HO520.out) (Kd.N_typed HO_3.out) (by decide)) (fun k_ hk => ⟨hk.2, hk.1.1.2⟩))).2.1 (Kd.R_F (Kd.R_mono (ok' := (fun k_ => some k_ ≠ (.slice Ao9 t449.length co9 : Value).ownBlock ∧ some k_ ≠ (v476 : Value).ownBlock)) (Kd.R_apart' (HO520.out) (Kd.N_typed HO_3.out) (by decide)) (fun k_ hk => ⟨hk.2, hk.1.1.2⟩))))) (Reps.one (show Kd.FK (Kd.slice 3 (Kd.int .i64)) _ _ y521 [.slice Ao82 y521.length co82] from (Kd.FK_slice_mk (Kd.R_reads' (Kd.R_mono (ok' := (fun k_ => some k_ ≠ (.slice Ao9 t449.length co9 : Value).ownBlock ∧ some k_ ≠ (v476 : Value).ownBlock)) (Kd.R_apart' (HO523.out) (Kd.N_typed HO_3.out) (by decide)) (fun k_ hk => ⟨hk.2, hk.1.1.2⟩))).2.1 (Kd.R_F (Kd.R_mono (ok' := (fun k_ => some k_ ≠ (.slice Ao9 t449.length co9 : Value).ownBlock ∧ some k_ ≠ (v476 : Value).ownBlock)) (Kd.R_apart' (HO523.out) (Kd.N_typed HO_3.out) (by decide)) (fun k_ hk => ⟨hk.2, hk.1.1.2⟩))))) (Reps.none _ _)))); intro v525 w83 ho84 hb hg_ hnew_; clear hg_ hnew_; (first | rw [← Ny524.out] at ho84 | (simp only [Int.reduceToNat] at ho84; rw [← Ny524.out] at ho84)); have n0_ := zM (Kd.N_elder' (by (with_reducible repeat (first | apply Kd.N_alloc | apply Kd.N_drewN | apply Kd.N_drew)); first | exact HO_3.out | (subst_vars; exact HO_3.out)) (Kd.N_base ho84) hb); have n1_ := zM (Kd.R_below (by (with_reducible repeat (first | apply zRa | apply zRn | apply zRd)); first | exact HO_14.out | (subst_vars; exact HO_14.out)) hb); have n2_ := zM (Kd.N_lower ho84 (below_size (by repeat (first | (with_reducible first | exact HB.out | apply zBa | apply zBn | apply zBd) | exact HB.out)))); have n3_ := zM (below_step (by repeat (first | (with_reducible first | exact HB.out | apply zBa | apply zBn | apply zBd) | exact HB.out)) hb); clear HO_3; clear HO_14; clear HB; clear HO520; clear HO523; have HO_3 := n0_; have HO_14 := n1_; have HO526 := n2_; have HB := n3_; clear n0_ n1_ n2_ n3_; clear hb ho84) | ((with_reducible refine gate_dst (N := 153) rfl ?_); (try (refine gate_guard (by rfl) ?_; dsimp only)); refine Kd.R_lit (Kd.int .i64) _ 3 ?hg (N := 153) ?hd (xs := ([0, 1, 0] : List Int)) (inner := [.int .i64 0, .int .i64 1, .int .i64 0]) (ok := fun _ => True) (okp := fun _ => True) ?hr ?hp (fun _ hk => hk) trivial (Below.refl _ _) (Nat.le_refl _) (by simp) ?_; (case hd => rfl); (case hg => rfl); (case hr => first | (go_simp; done) | (go_simp; rfl)); (case hp => exact (Reps.one (show Kd.M (Kd.int .i64) _ _ _ 0 [.int .i64 0] from rfl) (Reps.one (show Kd.M (Kd.int .i64) _ _ _ 1 [.int .i64 1] from rfl) (Reps.one (show Kd.M (Kd.int .i64) _ _ _ 0 [.int .i64 0] from rfl) (Reps.none _ _))))); intro v528 w85 ho86 hb hg_ hnew_; clear hg_ hnew_; (first | rw [← Ny527.out] at ho86 | (simp only [Int.reduceToNat] at ho86; rw [← Ny527.out] at ho86)); have n0_ := zM (Kd.N_elder' (by (with_reducible repeat (first | apply Kd.N_alloc | apply Kd.N_drewN | apply Kd.N_drew)); first | exact HO_3.out | (subst_vars; exact HO_3.out)) (Kd.R_base ho86) hb); have n1_ := zM (Kd.R_elder' (by (with_reducible repeat (first | apply zRa | apply zRn | apply zRd)); first | exact HO_14.out | (subst_vars; exact HO_14.out)) (Kd.R_base ho86) hb); have n2_ := zM (Kd.N_elder' (by (with_reducible repeat (first | apply Kd.N_alloc | apply Kd.N_drewN | apply Kd.N_drew)); first | exact HO526.out | (subst_vars; exact HO526.out)) (Kd.R_base ho86) hb); have n3_ := zM (Kd.R_lower (Kd.R_new' ho86 (Kd.R_lt (by (with_reducible repeat (first | apply zRa | apply zRn | apply zRd)); first | exact HO_14.out | (subst_vars; exact HO_14.out)))) (below_size (by repeat (first | (with_reducible first | exact HB.out | apply zBa | apply zBn | apply zBd) | exact HB.out)))); have n4_ := zM (below_step (by repeat (first | (with_reducible first | exact HB.out | apply zBa | apply zBn | apply zBd) | exact HB.out)) hb); clear HO_3; clear HO_14; clear HO526; clear HB; have HO_3 := n0_; have HO_14 := n1_; have HO526 := n2_; have HO529 := n3_; have HB := n4_; clear n0_ n1_ n2_ n3_ n4_; clear hb ho86; obtain ⟨Ao87, co87, eo87⟩ := Kd.N_slice HO526.out; subst eo87; obtain ⟨Ao88, co88, eo88⟩ := Kd.R_slice HO529.out; subst eo88) | ((with_reducible refine gate_callee (f := 20) rfl ?_); refine goesL_ (some 154) rfl rfl Try.func20 (by kernel_rfl) rfl #[.slice Ao87 y524.length co87, .slice Ao88 y527.length co88, .int .i64 5] rfl (by (try simp only [List.map_toArray, List.map_cons, List.map_nil]); first | done | rfl | (simp only [List.length_drop, List.length_take]; rfl)) ?_; (with_reducible refine (impl_TurnBits.calls kj28 _ _ y524 _ _ y527 5 t530 t531 true _ ?side1 ?side2 ?side3 ?side4 A73.out).mono ?_); (case side1 => repeat (first | exact (Kd.N_reads' HO526.out).2.2 | (with_reducible first | refine zCa ?_ _ | refine zCn ?_ _ | refine zCd ?_))); (case side2 => exact (Kd.N_reads' HO526.out).2.1); (case side3 => repeat (first | exact (Kd.R_reads' HO529.out).2.2 | (with_reducible first | refine zCa ?_ _ | refine zCn ?_ _ | refine zCd ?_))); (case side4 => exact (Kd.R_reads' HO529.out).2.1); rintro e w89 ⟨v533, rfl, ho0, hb⟩; refine ⟨_, rfl, ?_⟩; have n0_ := zM (Kd.N_elder' (by (with_reducible repeat (first | apply Kd.N_alloc | apply Kd.N_drewN | apply Kd.N_drew)); first | exact HO_3.out | (subst_vars; exact HO_3.out)) (Kd.R_base ho0) hb); have n1_ := zM (Kd.R_elder' (by (with_reducible repeat (first | apply zRa | apply zRn | apply zRd)); first | exact HO_14.out | (subst_vars; exact HO_14.out)) (Kd.R_base ho0) hb); have n2_ := zM (Kd.N_elder' (by (with_reducible repeat (first | apply Kd.N_alloc | apply Kd.N_drewN | apply Kd.N_drew)); first | exact HO526.out | (subst_vars; exact HO526.out)) (Kd.R_base ho0) hb); have n3_ := zM (Kd.R_elder' (by (with_reducible repeat (first | apply zRa | apply zRn | apply zRd)); first | exact HO529.out | (subst_vars; exact HO529.out)) (Kd.R_base ho0) hb); have n4_ := zM (Kd.R_lower (Kd.R_new' (Kd.R_new' ho0 (Kd.R_lt (by (with_reducible repeat (first | apply zRa | apply zRn | apply zRd)); first | exact HO_14.out | (subst_vars; exact HO_14.out)))) (Kd.R_lt (by (with_reducible repeat (first | apply zRa | apply zRn | apply zRd)); first | exact HO529.out | (subst_vars; exact HO529.out)))) (below_size (by repeat (first | (with_reducible first | exact HB.out | apply zBa | apply zBn | apply zBd) | exact HB.out)))); have n5_ := zM (below_step (by repeat (first | (with_reducible first | exact HB.out | apply zBa | apply zBn | apply zBd) | exact HB.out)) hb); clear HO_3; clear HO_14; clear HO526; clear HO529; clear HB; have HO_3 := n0_; have HO_14 := n1_; have HO526 := n2_; have HO529 := n3_; have HO534 := n4_; have HB := n5_; clear n0_ n1_ n2_ n3_ n4_ n5_; (try clear hb); (try clear hb2); (try clear hk); (try clear hi); (try clear ho0)) | ((with_reducible refine gate_dst (N := 165) rfl ?_); (try (refine gate_guard (by rfl) ?_; dsimp only)); refine Kd.R_lit (Kd.int .i64) _ 3 ?hg (N := 165) ?hd (xs := ([0, 0, 0] : List Int)) (inner := [.int .i64 0, .int .i64 0, .int .i64 0]) (ok := fun _ => True) (okp := fun _ => True) ?hr ?hp (fun _ hk => hk) trivial (Below.refl _ _) (Nat.le_refl _) (by simp) ?_; (case hd => rfl); (case hg => rfl); (case hr => first | (go_simp; done) | (go_simp; rfl)); (case hp => exact (Reps.one (show Kd.M (Kd.int .i64) _ _ _ 0 [.int .i64 0] from rfl) (Reps.one (show Kd.M (Kd.int .i64) _ _ _ 0 [.int .i64 0] from rfl) (Reps.one (show Kd.M (Kd.int .i64) _ _ _ 0 [.int .i64 0] from rfl) (Reps.none _ _))))); intro v536 w90 ho91 hb hg_ hnew_; clear hg_ hnew_; (first | rw [← Ny535.out] at ho91 | (simp only [Int.reduceToNat] at ho91; rw [← Ny535.out] at ho91)); have n0_ := zM (Kd.N_elder' (by (with_reducible repeat (first | apply Kd.N_alloc | apply Kd.N_drewN | apply Kd.N_drew)); first | exact HO_3.out | (subst_vars; exact HO_3.out)) (Kd.R_base ho91) hb); have n1_ := zM (Kd.R_elder' (by (with_reducible repeat (first | apply zRa | apply zRn | apply zRd)); first | exact HO_14.out | (subst_vars; exact HO_14.out)) (Kd.R_base ho91) hb); have n2_ := zM (Kd.N_elder' (by (with_reducible repeat (first | apply Kd.N_alloc | apply Kd.N_drewN | apply Kd.N_drew)); first | exact HO526.out | (subst_vars; exact HO526.out)) (Kd.R_base ho91) hb); have n3_ := zM (Kd.R_elder' (by (with_reducible repeat (first | apply zRa | apply zRn | apply zRd)); first | exact HO529.out | (subst_vars; exact HO529.out)) (Kd.R_base ho91) hb); have n4_ := zM (Kd.R_elder' (by (with_reducible repeat (first | apply zRa | apply zRn | apply zRd)); first | exact HO534.out | (subst_vars; exact HO534.out)) (Kd.R_base ho91) hb); have n5_ := zM (Kd.R_lower (Kd.R_new' (Kd.R_new' (Kd.R_new' ho91 (Kd.R_lt (by (with_reducible repeat (first | apply zRa | apply zRn | apply zRd)); first | exact HO_14.out | (subst_vars; exact HO_14.out)))) (Kd.R_lt (by (with_reducible repeat (first | apply zRa | apply zRn | apply zRd)); first | exact HO529.out | (subst_vars; exact HO529.out)))) (Kd.R_lt (by (with_reducible repeat (first | apply zRa | apply zRn | apply zRd)); first | exact HO534.out | (subst_vars; exact HO534.out)))) (below_size (by repeat (first | (with_reducible first | exact HB.out | apply zBa | apply zBn | apply zBd) | exact HB.out)))); have n6_ := zM (below_step (by repeat (first | (with_reducible first | exact HB.out | apply zBa | apply zBn | apply zBd) | exact HB.out)) hb); clear HO_3; clear HO_14; clear HO526; clear HO529; clear HO534; clear HB; have HO_3 := n0_; have HO_14 := n1_; have HO526 := n2_; have HO529 := n3_; have HO534 := n4_; have HO537 := n5_; have HB := n6_; clear n0_ n1_ n2_ n3_ n4_ n5_ n6_; clear hb ho91; obtain ⟨Ao92, co92, eo92⟩ := Kd.R_slice HO534.out; subst eo92; obtain ⟨Ao93, co93, eo93⟩ := Kd.R_slice HO537.out; subst eo93) | (go_at_call 26; (with_reducible refine (laws_sameInts.calls kj28 _ _ t530 _ _ y535 t538 _ ?side1 ?side2 ?side3 ?side4 A76.out).mono ?_); (case side1 => repeat (first | exact (Kd.R_reads' HO534.out).2.2 | (with_reducible first | refine zCa ?_ _ | refine zCn ?_ _ | refine zCd ?_))); (case side2 => exact (Kd.R_reads' HO534.out).2.1); (case side3 => repeat (first | exact (Kd.R_reads' HO537.out).2.2 | (with_reducible first | refine zCa ?_ _ | refine zCn ?_ _ | refine zCd ?_))); (case side4 => exact (Kd.R_reads' HO537.out).2.1); rintro e w' ⟨rfl, ⟨nd, rfl⟩⟩))
          go_ret
          exact ⟨by first | rfl | (simp [errW_none, errW_some] <;> rfl) | (simp [*, errW_none, errW_some] <;> rfl), by repeat (first | (with_reducible first | exact HB.out | apply zBa | apply zBn | apply zBd) | exact HB.out)⟩
         subst c44
         have H1 : ((impl_Fails.f kj28 t449 t473).bind fun bt493 => (if bt493.2 = true then (laws_FnParities.j4 kj28 (decide ((bt493.1.length : Int) > 0))) else (laws_FnParities.j4 kj28 true))) = some r := by rw [if_pos rfl] at H; exact H
         clear H
         have H := H1
         clear H1
         replace H := zO.mp H
         obtain ⟨⟨t493, t494⟩, A450, H⟩ := H
         replace H : (if t494 = true then (laws_FnParities.j4 kj28 (decide ((t493.length : Int) > 0))) else (laws_FnParities.j4 kj28 true)) = some r := H
         have A45 := zM A450
         clear A450
         have HC46 := zM H
         clear H
         obtain ⟨Ao47, co47, eo47⟩ := Kd.R_slice HO_14.out
         subst eo47
         go_upto_region 24 with (first | ((with_reducible refine gate_callee (f := 13) rfl ?_); refine goesL_ (some 139) rfl rfl Try.func13 (by kernel_rfl) rfl #[.slice Ao9 t449.length co9, .slice Ao47 t473.length co47] rfl (by (try simp only [List.map_toArray, List.map_cons, List.map_nil]); first | done | rfl | (simp only [List.length_drop, List.length_take]; rfl)) ?_; (with_reducible refine (impl_Fails.calls kj28 _ _ t449 _ _ t473 t493 t494 _ ?side1 ?side2 ?side3 ?side4 A45.out).mono ?_); (case side1 => repeat (first | exact (Kd.N_reads' HO_3.out).2.2 | (with_reducible first | refine zCa ?_ _ | refine zCn ?_ _ | refine zCd ?_))); (case side2 => exact (Kd.N_reads' HO_3.out).2.1); (case side3 => repeat (first | exact (Kd.R_reads' HO_14.out).2.2 | (with_reducible first | refine zCa ?_ _ | refine zCn ?_ _ | refine zCd ?_))); (case side4 => exact (Kd.R_reads' HO_14.out).2.1); rintro e w48 ⟨v495, rfl, ho0, hb⟩; refine ⟨_, rfl, ?_⟩; have n0_ := zM (Kd.N_elder' (by (with_reducible repeat (first | apply Kd.N_alloc | apply Kd.N_drewN | apply Kd.N_drew)); first | exact HO_3.out | (subst_vars; exact HO_3.out)) (Kd.R_base ho0) hb); have n1_ := zM (Kd.R_elder' (by (with_reducible repeat (first | apply zRa | apply zRn | apply zRd)); first | exact HO_14.out | (subst_vars; exact HO_14.out)) (Kd.R_base ho0) hb); have n2_ := zM (Kd.R_lower (Kd.R_new' ho0 (Kd.R_lt (by (with_reducible repeat (first | apply zRa | apply zRn | apply zRd)); first | exact HO_14.out | (subst_vars; exact HO_14.out)))) (below_size (by repeat (first | (with_reducible first | exact HB.out | apply zBa | apply zBn | apply zBd) | exact HB.out)))); have n3_ := zM (below_step (by repeat (first | (with_reducible first | exact HB.out | apply zBa | apply zBn | apply zBd) | exact HB.out)) hb); clear HO_3; clear HO_14; clear HB; have HO_3 := n0_; have HO_14 := n1_; have HO496 := n2_; have HB := n3_; clear n0_ n1_ n2_ n3_; (try clear hb); (try clear hb2); (try clear hk); (try clear hi); (try clear ho0)))
         (try simp only [Act.put, zS1, zS2, zS3])
         go_cut [148] (fun v148 wc => ∃ (kq : Nat) (x148_45 : Bool), v148 = .bool x148_45 ∧ Aside0 (laws_FnParities.j4 kq x148_45 = some r) ∧ Aside0 (kq ≤ kj28) ∧ Aside0 (Below w.heap.size w wc))
         case first =>
          have H := HC46.out
          clear HC46
          by_cases c49 : t494 = true
          case neg =>
           replace c49 := Bool.eq_false_iff.mpr c49
           subst c49
           have H1 : (laws_FnParities.j4 kj28 true) = some r := by rw [if_neg (show ¬ (false = true) by decide)] at H; exact H
           clear H
           have H := H1
           clear H1
           have H' := zM H
           clear H
           go_wp2
           go_meet
           case rel => exact ⟨_, (true), (by first | rfl | (simp; done) | (simp [*]; done)), H', ⟨by have := HJ6.out; have := HK2.out; have := HJ22.out; have := HJ28.out; first | omega | exact Nat.le_refl _⟩, ⟨by repeat (first | (with_reducible first | exact HB.out | apply zBa | apply zBn | apply zBd) | exact HB.out)⟩⟩
          subst c49
          have H1 : (laws_FnParities.j4 kj28 (decide ((t493.length : Int) > 0))) = some r := by rw [if_pos rfl] at H; exact H
          clear H
          have H := H1
          clear H1
          have H' := zM H
          clear H
          obtain ⟨Ao50, co50, eo50⟩ := Kd.R_slice HO496.out
          subst eo50
          go_wp2
          go_meet
          case rel => exact ⟨_, (decide ((t493.length : Int) > 0)), (by first | rfl | (simp; done) | (simp [*]; done)), H', ⟨by have := HJ6.out; have := HK2.out; have := HJ22.out; have := HJ28.out; first | omega | exact Nat.le_refl _⟩, ⟨by repeat (first | (with_reducible first | exact HB.out | apply zBa | apply zBn | apply zBd) | exact HB.out)⟩⟩
         case rest =>
          clear HC46
          try clear c1
          try clear c2
          try clear p2
          try clear c3
          try clear c4
          try clear c6
          try clear p6
          try clear c13
          try clear c13b0
          try clear c13b1
          try clear c13b2
          try clear c14
          try clear c17
          try clear c17b0
          try clear c19
          try clear c20
          try clear c21
          try clear c22
          try clear c23
          try clear c24
          try clear c25
          try clear c27
          try clear c27b0
          try clear c27b1
          try clear c27b2
          try clear c28
          try clear c30
          try clear c33
          try clear c34
          try clear c34b0
          try clear c34b1
          try clear c35
          try clear c36
          try clear c36b0
          try clear c36b1
          try clear c38
          try clear c44
          try clear c49
          try clear p2
          try clear p6
          obtain ⟨kq, x148_45, rfl, HA, HJ45, HB⟩ := hcut
          cases kq with
          | zero => exact absurd HA.out (by simp [laws_FnParities.j4])
          | succ kj45 =>
           have H := HA.out
           clear HA
           simp only [laws_FnParities.j4] at H
           by_cases c51 : x148_45 = true
           case pos =>
            subst c51
            have H1 : (some false) = some r := by rw [if_pos rfl] at H; exact H
            clear H
            have H := H1
            clear H1
            exact absurd (zI H) (by rw [hr_]; decide)
           replace c51 := Bool.eq_false_iff.mpr c51
           subst c51
           have H1 : ((impl_TurnBits.f kj45 (([(([0, 1] : List Int)), (([1, 2] : List Int))] : List (List Int))) (([0, 1, 0] : List Int)) 5).bind fun bt509 => (if bt509.2.2 = true then (if bt509.2.1 = 1 then ((laws_sameInts.f kj45 bt509.1 (([0, 0, 0] : List Int))).bind fun t517 => (some t517)) else (some false)) else (some false))) = some r := by rw [if_neg (show ¬ (false = true) by decide)] at H; exact H
           clear H
           have H := H1
           clear H1
           obtain ⟨y497, hy497⟩ : ∃ y_ : List Int, y_ = (([0, 1] : List Int)) := ⟨_, rfl⟩
           replace H : ((impl_TurnBits.f kj45 (([y497, (([1, 2] : List Int))] : List (List Int))) (([0, 1, 0] : List Int)) 5).bind fun bt509 => (if bt509.2.2 = true then (if bt509.2.1 = 1 then ((laws_sameInts.f kj45 bt509.1 (([0, 0, 0] : List Int))).bind fun t517 => (some t517)) else (some false)) else (some false))) = some r := by first | (rw [hy497]; with_reducible exact H) | (have H2_ := (Option.bind_some _ _).symm.trans H; rw [hy497]; with_reducible exact H2_) | (have H2_ := (Option.bind_some _ _).symm.trans H; with_reducible exact H2_) | with_reducible exact H | (rw [hy497]; exact H) | exact H
           have Ny497 := zM hy497
           clear hy497
           obtain ⟨y500, hy500⟩ : ∃ y_ : List Int, y_ = (([1, 2] : List Int)) := ⟨_, rfl⟩
           replace H : ((impl_TurnBits.f kj45 (([y497, y500] : List (List Int))) (([0, 1, 0] : List Int)) 5).bind fun bt509 => (if bt509.2.2 = true then (if bt509.2.1 = 1 then ((laws_sameInts.f kj45 bt509.1 (([0, 0, 0] : List Int))).bind fun t517 => (some t517)) else (some false)) else (some false))) = some r := by first | (rw [hy500]; with_reducible exact H) | (have H2_ := (Option.bind_some _ _).symm.trans H; rw [hy500]; with_reducible exact H2_) | (have H2_ := (Option.bind_some _ _).symm.trans H; with_reducible exact H2_) | with_reducible exact H | (rw [hy500]; exact H) | exact H
           have Ny500 := zM hy500
           clear hy500
           obtain ⟨y503, hy503⟩ : ∃ y_ : List (List Int), y_ = (([y497, y500] : List (List Int))) := ⟨_, rfl⟩
           replace H : ((impl_TurnBits.f kj45 y503 (([0, 1, 0] : List Int)) 5).bind fun bt509 => (if bt509.2.2 = true then (if bt509.2.1 = 1 then ((laws_sameInts.f kj45 bt509.1 (([0, 0, 0] : List Int))).bind fun t517 => (some t517)) else (some false)) else (some false))) = some r := by first | (rw [hy503]; with_reducible exact H) | (have H2_ := (Option.bind_some _ _).symm.trans H; rw [hy503]; with_reducible exact H2_) | (have H2_ := (Option.bind_some _ _).symm.trans H; with_reducible exact H2_) | with_reducible exact H | (rw [hy503]; exact H) | exact H
           have Ny503 := zM hy503
           clear hy503
           obtain ⟨y506, hy506⟩ : ∃ y_ : List Int, y_ = (([0, 1, 0] : List Int)) := ⟨_, rfl⟩
           replace H : ((impl_TurnBits.f kj45 y503 y506 5).bind fun bt509 => (if bt509.2.2 = true then (if bt509.2.1 = 1 then ((laws_sameInts.f kj45 bt509.1 (([0, 0, 0] : List Int))).bind fun t517 => (some t517)) else (some false)) else (some false))) = some r := by first | (rw [hy506]; with_reducible exact H) | (have H2_ := (Option.bind_some _ _).symm.trans H; rw [hy506]; with_reducible exact H2_) | (have H2_ := (Option.bind_some _ _).symm.trans H; with_reducible exact H2_) | with_reducible exact H | (rw [hy506]; exact H) | exact H
           have Ny506 := zM hy506
           clear hy506
           replace H := zO.mp H
           obtain ⟨⟨t509, t510, t511⟩, A520, H⟩ := H
           replace H : (if t511 = true then (if t510 = 1 then ((laws_sameInts.f kj45 t509 (([0, 0, 0] : List Int))).bind fun t517 => (some t517)) else (some false)) else (some false)) = some r := H
           have A52 := zM A520
           clear A520
           by_cases c53 : t511 = true
           case neg =>
            replace c53 := Bool.eq_false_iff.mpr c53
            subst c53
            have H1 : (some false) = some r := by rw [if_neg (show ¬ (false = true) by decide)] at H; exact H
            clear H
            have H := H1
            clear H1
            exact absurd (zI H) (by rw [hr_]; decide)
           subst c53
           have H1 : (if t510 = 1 then ((laws_sameInts.f kj45 t509 (([0, 0, 0] : List Int))).bind fun t517 => (some t517)) else (some false)) = some r := by rw [if_pos rfl] at H; exact H
           clear H
           have H := H1
           clear H1
           by_cases c54 : t510 = 1
           case neg =>
            rw [if_neg c54] at H
            have c54b0 : (t510 == 1) = false := beq_eq_false_iff_ne.mpr c54
            have c54b1 : (t510 != 1) = true := bne_iff_ne.mpr c54
            exact absurd (zI H) (by rw [hr_]; decide)
           rw [if_pos c54] at H
           have c54b0 : (t510 == 1) = true := beq_iff_eq.mpr c54
           have c54b1 : (t510 != 1) = false := bne_eq_false_iff_eq.mpr c54
           clear c54
           obtain ⟨y514, hy514⟩ : ∃ y_ : List Int, y_ = (([0, 0, 0] : List Int)) := ⟨_, rfl⟩
           replace H : ((laws_sameInts.f kj45 t509 y514).bind fun t517 => (some t517)) = some r := by first | (rw [hy514]; with_reducible exact H) | (have H2_ := (Option.bind_some _ _).symm.trans H; rw [hy514]; with_reducible exact H2_) | (have H2_ := (Option.bind_some _ _).symm.trans H; with_reducible exact H2_) | with_reducible exact H | (rw [hy514]; exact H) | exact H
           have Ny514 := zM hy514
           clear hy514
           replace H := zO.mp H
           obtain ⟨t517, A550, H⟩ := H
           replace H : (some t517) = some r := H
           have A55 := zM A550
           clear A550
           obtain rfl := zI H
           go_wp2_with (first | ((with_reducible refine gate_dst (N := 150) rfl ?_); (try (refine gate_guard (by rfl) ?_; dsimp only)); refine Kd.R_lit (Kd.int .i64) _ 3 ?hg (N := 150) ?hd (xs := ([0, 1] : List Int)) (inner := [.int .i64 0, .int .i64 1]) (ok := fun _ => True) (okp := fun _ => True) ?hr ?hp (fun _ hk => hk) trivial (Below.refl _ _) (Nat.le_refl _) (by simp) ?_; (case hd => rfl); (case hg => rfl); (case hr => first | (go_simp; done) | (go_simp; rfl)); (case hp => exact (Reps.one (show Kd.M (Kd.int .i64) _ _ _ 0 [.int .i64 0] from rfl) (Reps.one (show Kd.M (Kd.int .i64) _ _ _ 1 [.int .i64 1] from rfl) (Reps.none _ _)))); intro v498 w56 ho57 hb hg_ hnew_; clear hg_ hnew_; (first | rw [← Ny497.out] at ho57 | (simp only [Int.reduceToNat] at ho57; rw [← Ny497.out] at ho57)); have n0_ := zM (Kd.R_lower ho57 (below_size (by repeat (first | (with_reducible first | exact HB.out | apply zBa | apply zBn | apply zBd) | exact HB.out)))); have n1_ := zM (below_step (by repeat (first | (with_reducible first | exact HB.out | apply zBa | apply zBn | apply zBd) | exact HB.out)) hb); clear HB; have HO499 := n0_; have HB := n1_; clear n0_ n1_; clear hb ho57) | ((with_reducible refine gate_dst (N := 151) rfl ?_); (try (refine gate_guard (by rfl) ?_; dsimp only)); refine Kd.R_lit (Kd.int .i64) _ 3 ?hg (N := 151) ?hd (xs := ([1, 2] : List Int)) (inner := [.int .i64 1, .int .i64 2]) (ok := fun _ => True) (okp := fun _ => True) ?hr ?hp (fun _ hk => hk) trivial (Below.refl _ _) (Nat.le_refl _) (by simp) ?_; (case hd => rfl); (case hg => rfl); (case hr => first | (go_simp; done) | (go_simp; rfl)); (case hp => exact (Reps.one (show Kd.M (Kd.int .i64) _ _ _ 1 [.int .i64 1] from rfl) (Reps.one (show Kd.M (Kd.int .i64) _ _ _ 2 [.int .i64 2] from rfl) (Reps.none _ _)))); intro v501 w58 ho59 hb hg_ hnew_; clear hg_ hnew_; (first | rw [← Ny500.out] at ho59 | (simp only [Int.reduceToNat] at ho59; rw [← Ny500.out] at ho59)); have n0_ := zM (Kd.R_elder' (by (with_reducible repeat (first | apply zRa | apply zRn | apply zRd)); first | exact HO499.out | (subst_vars; exact HO499.out)) (Kd.R_base ho59) hb); have n1_ := zM (Kd.R_lower (Kd.R_new' ho59 (Kd.R_lt (by (with_reducible repeat (first | apply zRa | apply zRn | apply zRd)); first | exact HO499.out | (subst_vars; exact HO499.out)))) (below_size (by repeat (first | (with_reducible first | exact HB.out | apply zBa | apply zBn | apply zBd) | exact HB.out)))); have n2_ := zM (below_step (by repeat (first | (with_reducible first | exact HB.out | apply zBa | apply zBn | apply zBd) | exact HB.out)) hb); clear HO499; clear HB; have HO499 := n0_; have HO502 := n1_; have HB := n2_; clear n0_ n1_ n2_; clear hb ho59; obtain ⟨Ao60, co60, eo60⟩ := Kd.R_slice HO499.out; subst eo60; obtain ⟨Ao61, co61, eo61⟩ := Kd.R_slice HO502.out; subst eo61) | ((with_reducible refine gate_dst (N := 152) rfl ?_); (try (refine gate_guard (by rfl) ?_; dsimp only)); refine Kd.N_lit (Kd.slice 3 (Kd.int .i64)) _ 23 ?hg (N' := 152) ?hd (xs := ([y497, y500] : List (List Int))) (inner := [.slice Ao60 y497.length co60, .slice Ao61 y500.length co61]) (ok := (fun _ => True)) (okp := (fun _ => True)) ?hr ?hp (fun _ hk => hk) ((show ∀ k_, w58.heap.size ≤ k_ → (fun _ => True) k_ from fun k_ hk => trivial) _ (Nat.le_refl _)) (Below.refl _ _) (Nat.le_refl _) (by simp) ?_; (case hd => rfl); (case hg => rfl); (case hr => first | (go_simp; done) | (go_simp; rfl)); (case hp => exact (Reps.one (show Kd.FK (Kd.slice 3 (Kd.int .i64)) _ _ y497 [.slice Ao60 y497.length co60] from (Kd.FK_slice_mk (Kd.R_reads' (Kd.R_mono (ok' := (fun _ => True)) (HO499.out) (fun k_ hk => trivial))).2.1 (Kd.R_F (Kd.R_mono (ok' := (fun _ => True)) (HO499.out) (fun k_ hk => trivial))))) (Reps.one (show Kd.FK (Kd.slice 3 (Kd.int .i64)) _ _ y500 [.slice Ao61 y500.length co61] from (Kd.FK_slice_mk (Kd.R_reads' (Kd.R_mono (ok' := (fun _ => True)) (HO502.out) (fun k_ hk => trivial))).2.1 (Kd.R_F (Kd.R_mono (ok' := (fun _ => True)) (HO502.out) (fun k_ hk => trivial))))) (Reps.none _ _)))); intro v504 w62 ho63 hb hg_ hnew_; clear hg_ hnew_; (first | rw [← Ny503.out] at ho63 | (simp only [Int.reduceToNat] at ho63; rw [← Ny503.out] at ho63)); have n0_ := zM (Kd.N_lower ho63 (below_size (by repeat (first | (with_reducible first | exact HB.out | apply zBa | apply zBn | apply zBd) | exact HB.out)))); have n1_ := zM (below_step (by repeat (first | (with_reducible first | exact HB.out | apply zBa | apply zBn | apply zBd) | exact HB.out)) hb); clear HB; clear HO499; clear HO502; have HO505 := n0_; have HB := n1_; clear n0_ n1_; clear hb ho63) | ((with_reducible refine gate_dst (N := 153) rfl ?_); (try (refine gate_guard (by rfl) ?_; dsimp only)); refine Kd.R_lit (Kd.int .i64) _ 3 ?hg (N := 153) ?hd (xs := ([0, 1, 0] : List Int)) (inner := [.int .i64 0, .int .i64 1, .int .i64 0]) (ok := fun _ => True) (okp := fun _ => True) ?hr ?hp (fun _ hk => hk) trivial (Below.refl _ _) (Nat.le_refl _) (by simp) ?_; (case hd => rfl); (case hg => rfl); (case hr => first | (go_simp; done) | (go_simp; rfl)); (case hp => exact (Reps.one (show Kd.M (Kd.int .i64) _ _ _ 0 [.int .i64 0] from rfl) (Reps.one (show Kd.M (Kd.int .i64) _ _ _ 1 [.int .i64 1] from rfl) (Reps.one (show Kd.M (Kd.int .i64) _ _ _ 0 [.int .i64 0] from rfl) (Reps.none _ _))))); intro v507 w64 ho65 hb hg_ hnew_; clear hg_ hnew_; (first | rw [← Ny506.out] at ho65 | (simp only [Int.reduceToNat] at ho65; rw [← Ny506.out] at ho65)); have n0_ := zM (Kd.N_elder' (by (with_reducible repeat (first | apply Kd.N_alloc | apply Kd.N_drewN | apply Kd.N_drew)); first | exact HO505.out | (subst_vars; exact HO505.out)) (Kd.R_base ho65) hb); have n1_ := zM (Kd.R_lower ho65 (below_size (by repeat (first | (with_reducible first | exact HB.out | apply zBa | apply zBn | apply zBd) | exact HB.out)))); have n2_ := zM (below_step (by repeat (first | (with_reducible first | exact HB.out | apply zBa | apply zBn | apply zBd) | exact HB.out)) hb); clear HO505; clear HB; have HO505 := n0_; have HO508 := n1_; have HB := n2_; clear n0_ n1_ n2_; clear hb ho65; obtain ⟨Ao66, co66, eo66⟩ := Kd.N_slice HO505.out; subst eo66; obtain ⟨Ao67, co67, eo67⟩ := Kd.R_slice HO508.out; subst eo67) | ((with_reducible refine gate_callee (f := 20) rfl ?_); refine goesL_ (some 154) rfl rfl Try.func20 (by kernel_rfl) rfl #[.slice Ao66 y503.length co66, .slice Ao67 y506.length co67, .int .i64 5] rfl (by (try simp only [List.map_toArray, List.map_cons, List.map_nil]); first | done | rfl | (simp only [List.length_drop, List.length_take]; rfl)) ?_; (with_reducible refine (impl_TurnBits.calls kj45 _ _ y503 _ _ y506 5 t509 t510 true _ ?side1 ?side2 ?side3 ?side4 A52.out).mono ?_); (case side1 => repeat (first | exact (Kd.N_reads' HO505.out).2.2 | (with_reducible first | refine zCa ?_ _ | refine zCn ?_ _ | refine zCd ?_))); (case side2 => exact (Kd.N_reads' HO505.out).2.1); (case side3 => repeat (first | exact (Kd.R_reads' HO508.out).2.2 | (with_reducible first | refine zCa ?_ _ | refine zCn ?_ _ | refine zCd ?_))); (case side4 => exact (Kd.R_reads' HO508.out).2.1); rintro e w68 ⟨v512, rfl, ho0, hb⟩; refine ⟨_, rfl, ?_⟩; have n0_ := zM (Kd.N_elder' (by (with_reducible repeat (first | apply Kd.N_alloc | apply Kd.N_drewN | apply Kd.N_drew)); first | exact HO505.out | (subst_vars; exact HO505.out)) (Kd.R_base ho0) hb); have n1_ := zM (Kd.R_elder' (by (with_reducible repeat (first | apply zRa | apply zRn | apply zRd)); first | exact HO508.out | (subst_vars; exact HO508.out)) (Kd.R_base ho0) hb); have n2_ := zM (Kd.R_lower (Kd.R_new' ho0 (Kd.R_lt (by (with_reducible repeat (first | apply zRa | apply zRn | apply zRd)); first | exact HO508.out | (subst_vars; exact HO508.out)))) (below_size (by repeat (first | (with_reducible first | exact HB.out | apply zBa | apply zBn | apply zBd) | exact HB.out)))); have n3_ := zM (below_step (by repeat (first | (with_reducible first | exact HB.out | apply zBa | apply zBn | apply zBd) | exact HB.out)) hb); clear HO505; clear HO508; clear HB; have HO505 := n0_; have HO508 := n1_; have HO513 := n2_; have HB := n3_; clear n0_ n1_ n2_ n3_; (try clear hb); (try clear hb2); (try clear hk); (try clear hi); (try clear ho0)) | ((with_reducible refine gate_dst (N := 165) rfl ?_); (try (refine gate_guard (by rfl) ?_; dsimp only)); refine Kd.R_lit (Kd.int .i64) _ 3 ?hg (N := 165) ?hd (xs := ([0, 0, 0] : List Int)) (inner := [.int .i64 0, .int .i64 0, .int .i64 0]) (ok := fun _ => True) (okp := fun _ => True) ?hr ?hp (fun _ hk => hk) trivial (Below.refl _ _) (Nat.le_refl _) (by simp) ?_; (case hd => rfl); (case hg => rfl); (case hr => first | (go_simp; done) | (go_simp; rfl)); (case hp => exact (Reps.one (show Kd.M (Kd.int .i64) _ _ _ 0 [.int .i64 0] from rfl) (Reps.one (show Kd.M (Kd.int .i64) _ _ _ 0 [.int .i64 0] from rfl) (Reps.one (show Kd.M (Kd.int .i64) _ _ _ 0 [.int .i64 0] from rfl) (Reps.none _ _))))); intro v515 w69 ho70 hb hg_ hnew_; clear hg_ hnew_; (first | rw [← Ny514.out] at ho70 | (simp only [Int.reduceToNat] at ho70; rw [← Ny514.out] at ho70)); have n0_ := zM (Kd.N_elder' (by (with_reducible repeat (first | apply Kd.N_alloc | apply Kd.N_drewN | apply Kd.N_drew)); first | exact HO505.out | (subst_vars; exact HO505.out)) (Kd.R_base ho70) hb); have n1_ := zM (Kd.R_elder' (by (with_reducible repeat (first | apply zRa | apply zRn | apply zRd)); first | exact HO508.out | (subst_vars; exact HO508.out)) (Kd.R_base ho70) hb); have n2_ := zM (Kd.R_elder' (by (with_reducible repeat (first | apply zRa | apply zRn | apply zRd)); first | exact HO513.out | (subst_vars; exact HO513.out)) (Kd.R_base ho70) hb); have n3_ := zM (Kd.R_lower (Kd.R_new' (Kd.R_new' ho70 (Kd.R_lt (by (with_reducible repeat (first | apply zRa | apply zRn | apply zRd)); first | exact HO508.out | (subst_vars; exact HO508.out)))) (Kd.R_lt (by (with_reducible repeat (first | apply zRa | apply zRn | apply zRd)); first | exact HO513.out | (subst_vars; exact HO513.out)))) (below_size (by repeat (first | (with_reducible first | exact HB.out | apply zBa | apply zBn | apply zBd) | exact HB.out)))); have n4_ := zM (below_step (by repeat (first | (with_reducible first | exact HB.out | apply zBa | apply zBn | apply zBd) | exact HB.out)) hb); clear HO505; clear HO508; clear HO513; clear HB; have HO505 := n0_; have HO508 := n1_; have HO513 := n2_; have HO516 := n3_; have HB := n4_; clear n0_ n1_ n2_ n3_ n4_; clear hb ho70; obtain ⟨Ao71, co71, eo71⟩ := Kd.R_slice HO513.out; subst eo71; obtain ⟨Ao72, co72, eo72⟩ := Kd.R_slice HO516.out; subst eo72) | (go_at_call 26; (with_reducible refine (laws_sameInts.calls kj45 _ _ t509 _ _ y514 t517 _ ?side1 ?side2 ?side3 ?side4 A55.out).mono ?_); (case side1 => repeat (first | exact (Kd.R_reads' HO513.out).2.2 | (with_reducible first | refine zCa ?_ _ | refine zCn ?_ _ | refine zCd ?_))); (case side2 => exact (Kd.R_reads' HO513.out).2.1); (case side3 => repeat (first | exact (Kd.R_reads' HO516.out).2.2 | (with_reducible first | refine zCa ?_ _ | refine zCn ?_ _ | refine zCd ?_))); (case side4 => exact (Kd.R_reads' HO516.out).2.1); rintro e w' ⟨rfl, ⟨nd, rfl⟩⟩))
           go_ret
           exact ⟨by first | rfl | (simp [errW_none, errW_some] <;> rfl) | (simp [*, errW_none, errW_some] <;> rfl), by repeat (first | (with_reducible first | exact HB.out | apply zBa | apply zBn | apply zBd) | exact HB.out)⟩

/-- THE ONE PURE STATEMENT of laws_FnParities: yours. -/
def laws_FnParities.Pure : Prop := ∀ (l0 : List Int), l0.length ≤ maxLen → l0.length * 1 ≤ 140737488351232 → (∀ x ∈ l0, (Lit.int .u8 x).wf = true) → ∃ k, laws_FnParities.f k l0 = some true
theorem laws_FnParities.walk (P : laws_FnParities.Pure) (a0 : Option Addr) (len0 cap0 : Nat) (z0 : List Int) (w : World) (w0 : (a0 = none ∧ len0 = 0 ∧ cap0 = 0 ∧ z0 = []) ∨ ∃ x, a0 = some x ∧ len0 ≤ cap0 ∧ cap0 ≤ maxLen ∧ z0.length = cap0 ∧ (∀ i, i < z0.length → w.cell? (x.add i) = some (.int .u8 (z0.getD i 0))) ∧ ∀ n ∈ z0, (Lit.int .u8 n).wf = true) (y0 : len0 * 1 ≤ 140737488351232) :
 Calls Try.prog 6 #[.slice a0 len0 cap0] w fun e w' => e = .returned (.bool true) ∧ Below w.heap.size w w' := by
 obtain ⟨l0, rfl, hr0, hm0, hw0, hc0⟩ := ReadsInt.ofRowC w0
 obtain ⟨k, h⟩ := P l0 hm0 y0 hw0
 refine (laws_FnParities.calls k _ _ l0 true w (Kd.C_of_reads (d := (0 : Int)) (h1 := fun _ => rfl) hr0) hc0 rfl h).mono ?_
 rintro e w' ⟨rfl, hd⟩
 exact ⟨rfl, hd⟩

end Go.Proofs.Ytpphjbogijjnpaa.PFnParities
