-- Written by a turned copy of the print (see the notes of this repo): plain functions and their walks. Lean checks it.
import Derived.Test.YtpphjbogijjnpaaPFnParitiesx0
import Derived.Test.YtpphjbogijjnpaaPFnParitiesx12
import Derived.Test.YtpphjbogijjnpaaPFnParitiesx14
namespace Go.Proofs.Ytpphjbogijjnpaa.PFnParities
open Go.RowKit Go.Proofs.YtpphjbogijjnpaaW.PrintWords Go.Proofs.YtpphjbogijjnpaaW.PrintLast Go.Proofs.YtpphjbogijjnpaaW.PrintMore
attribute [local go_sem] max2_int min2_int max_two min_two max_three min_three max_four min_four   -- for this text's walks alone
set_option linter.unusedVariables false
set_option linter.unusedSimpArgs false

/-! ### spec_DrawFails: function 55 -/
def spec_DrawFails.f (k : Nat) (l0 : List Int) : Option ((List (List Int)) × List Int) := (spec_l1New.f k l0).bind fun bt426 => ((spec_l16Draw.f k bt426.1 bt426.2.1 bt426.2.2).bind fun bt430 => ((spec_l16DrawWord.f k bt426.1 bt430.2.2.1 bt430.2.2.2 bt430.1 bt430.2.1).bind fun bt436 => ((spec_l1Once.f bt426.1 bt436.2.1 bt436.2.2 30).bind fun bt441 => (if bt441.1 = true then (if (bt436.1.length : Int) > 0 then (if 0 < (bt436.1.length : Int) then (some (bt430.1, (bt436.1.set (0 : Int).toNat 2))) else (none)) else (some (bt430.1, bt436.1))) else (some (bt430.1, bt436.1))))))
theorem spec_DrawFails.mono : ∀ a0 k, LeO (spec_DrawFails.f k a0) (spec_DrawFails.f (k + 1) a0) := by
 intro a0 k
 unfold spec_DrawFails.f
 repeat' first
  | (with_reducible exact spec_l16Draw.mono _ _ _ _)
  | (with_reducible exact spec_l16DrawWord.mono _ _ _ _ _ _)
  | (with_reducible exact spec_l1New.mono _ _)
  | (with_reducible exact LeO.refl _)
  | (with_reducible exact LeO.none _)
  | (with_reducible refine LeO.ite ?_ ?_)
  | (with_reducible refine LeO.bind ?_ (fun _ => ?_))
set_option maxHeartbeats 8000000 in
set_option maxRecDepth 100000 in
theorem spec_DrawFails.calls (k : Nat) (A0 : Option Addr) (c0 : Nat) (l0 : List Int) (r1 : List (List Int)) (r2 : List Int) (w : World) (hr0 : Kd.C (Kd.int .u8) w A0 l0.length l0) (hc0 : l0.length ≤ c0) (h : spec_DrawFails.f k l0 = some (r1, r2)) :
 Calls Try.prog 55 #[.slice A0 l0.length c0] w fun e w' => ∃ v0_ v1_ : Value, e = .returned (.tuple #[v0_, v1_]) ∧ Kd.S (Kd.slice 3 (Kd.int .i64)) 23 w' w.heap.size (fun k_ => some k_ ≠ (v1_ : Value).ownBlock) v0_ r1 ∧ Kd.R (Kd.int .i64) 3 w' w.heap.size (fun _ => True) v1_ r2 ∧ Below w.heap.size w w' := by
 have HR0 := zM hr0
 have HC0 := zM hc0
 clear hr0 hc0
 have HB := zM (Below.refl w.heap.size w)
 have H : ((spec_l1New.f k l0).bind fun bt426 => ((spec_l16Draw.f k bt426.1 bt426.2.1 bt426.2.2).bind fun bt430 => ((spec_l16DrawWord.f k bt426.1 bt430.2.2.1 bt430.2.2.2 bt430.1 bt430.2.1).bind fun bt436 => ((spec_l1Once.f bt426.1 bt436.2.1 bt436.2.2 30).bind fun bt441 => (if bt441.1 = true then (if (bt436.1.length : Int) > 0 then (if 0 < (bt436.1.length : Int) then (some (bt430.1, (bt436.1.set (0 : Int).toNat 2))) else (none)) else (some (bt430.1, bt436.1))) else (some (bt430.1, bt436.1))))))) = some (r1, r2) := h
 clear h
 replace H := zO.mp H
 obtain ⟨⟨t426, t427, t428⟩, A20, H⟩ := H
 replace H : ((spec_l16Draw.f k t426 t427 t428).bind fun bt430 => ((spec_l16DrawWord.f k t426 bt430.2.2.1 bt430.2.2.2 bt430.1 bt430.2.1).bind fun bt436 => ((spec_l1Once.f t426 bt436.2.1 bt436.2.2 30).bind fun bt441 => (if bt441.1 = true then (if (bt436.1.length : Int) > 0 then (if 0 < (bt436.1.length : Int) then (some (bt430.1, (bt436.1.set (0 : Int).toNat 2))) else (none)) else (some (bt430.1, bt436.1))) else (some (bt430.1, bt436.1)))))) = some (r1, r2) := H
 have A2 := zM A20
 clear A20
 replace H := zO.mp H
 obtain ⟨⟨t430, t433, t434, t435⟩, A30, H⟩ := H
 replace H : ((spec_l16DrawWord.f k t426 t434 t435 t430 t433).bind fun bt436 => ((spec_l1Once.f t426 bt436.2.1 bt436.2.2 30).bind fun bt441 => (if bt441.1 = true then (if (bt436.1.length : Int) > 0 then (if 0 < (bt436.1.length : Int) then (some (t430, (bt436.1.set (0 : Int).toNat 2))) else (none)) else (some (t430, bt436.1))) else (some (t430, bt436.1))))) = some (r1, r2) := H
 have A3 := zM A30
 clear A30
 replace H := zO.mp H
 obtain ⟨⟨t436, t439, t440⟩, A40, H⟩ := H
 replace H : ((spec_l1Once.f t426 t439 t440 30).bind fun bt441 => (if bt441.1 = true then (if (t436.length : Int) > 0 then (if 0 < (t436.length : Int) then (some (t430, (t436.set (0 : Int).toNat 2))) else (none)) else (some (t430, t436))) else (some (t430, t436)))) = some (r1, r2) := H
 have A4 := zM A40
 clear A40
 replace H := zO.mp H
 obtain ⟨⟨t441, t442, t443⟩, A50, H⟩ := H
 replace H : (if t441 = true then (if (t436.length : Int) > 0 then (if 0 < (t436.length : Int) then (some (t430, (t436.set (0 : Int).toNat 2))) else (none)) else (some (t430, t436))) else (some (t430, t436))) = some (r1, r2) := H
 have A5 := zM A50
 clear A50
 by_cases c6 : t441 = true
 case neg =>
  replace c6 := Bool.eq_false_iff.mpr c6
  subst c6
  have H1 : (some (t430, t436)) = some (r1, r2) := by rw [if_neg (show ¬ (false = true) by decide)] at H; exact H
  clear H
  have H := H1
  clear H1
  simp only [Option.some.injEq, Prod.mk.injEq] at H
  obtain ⟨rfl, rfl⟩ := H
  go_enter Try.func55, Try.ntmps55
  go_wp2_with (first | ((with_reducible refine gate_callee (f := 47) rfl ?_); refine goesL_ (some 9) rfl rfl Try.func47 (by kernel_rfl) rfl #[.slice A0 l0.length c0] rfl (by (try simp only [List.map_toArray, List.map_cons, List.map_nil]); first | done | rfl | (simp only [List.length_drop, List.length_take]; rfl)) ?_; (with_reducible refine (spec_l1New.calls k _ _ l0 t426 t427 t428 w _ ?side1 ?side2 ?side3 A2.out).mono ?_); (case side1 => repeat (first | (with_reducible first | exact HB.out | apply zBa | apply zBn | apply zBd) | exact HB.out)); (case side2 => exact HR0.out); (case side3 => exact HC0.out); rintro e w24 ⟨g429, rfl, hi, hb, hb2⟩; refine ⟨_, rfl, ?_⟩; have n0_ := zM (hb); have n1_ := zM (hi); clear HB; have HB := n0_; have HI429 := n1_; clear n0_ n1_; (try clear hb); (try clear hb2); (try clear hk); (try clear hi)) | ((with_reducible refine gate_callee (f := 52) rfl ?_); refine goesL_ (some 12) rfl rfl Try.func52 (by kernel_rfl) rfl #[.pointer (some ⟨g429, 0, none⟩)] rfl (by (try simp only [List.map_toArray, List.map_cons, List.map_nil]); first | done | rfl | (simp only [List.length_drop, List.length_take]; rfl)) ?_; (with_reducible refine (spec_l16Draw.calls k g429 t426 t427 t428 t430 t433 t434 t435 w _ ?side1 ?side2 A3.out).mono ?_); (case side1 => repeat (first | (with_reducible first | exact HI429.out | apply IsS62.alloc | apply IsS62.drewN | apply IsS62.drew | apply IsS62.set_1 | apply IsS62.set_2) | exact HI429.out)); (case side2 => repeat (first | (with_reducible first | exact HB.out | apply zBa | apply zBn | apply zBd | refine zBs ?_ (IsS62.ge HI429.out)) | exact HB.out)); rintro e w25 ⟨v431, rfl, ho0, hi, hb, hk⟩; refine ⟨_, rfl, ?_⟩; have n0_ := zM (Kd.S_lower ho0 (below_size (by repeat (first | (with_reducible first | exact HB.out | apply zBa | apply zBn | apply zBd | refine zBs ?_ (IsS62.ge HI429.out)) | exact HB.out)))); have n1_ := zM (hb); have n2_ := zM (hi); clear HB; clear HI429; have HO432 := n0_; have HB := n1_; have HI429 := n2_; clear n0_ n1_ n2_; (try clear hb); (try clear hb2); (try clear hk); (try clear hi); (try clear ho0); obtain ⟨Ao26, co26, eo26⟩ := Kd.S_slice HO432.out; subst eo26) | ((with_reducible refine gate_callee (f := 58) rfl ?_); refine goesL_ (some 18) rfl rfl Try.func58 (by kernel_rfl) rfl #[.pointer (some ⟨g429, 0, none⟩), .slice Ao26 t430.length co26, .int .i64 t433] rfl (by (try simp only [List.map_toArray, List.map_cons, List.map_nil]); first | done | rfl | (simp only [List.length_drop, List.length_take]; rfl)) ?_; (with_reducible refine (spec_l16DrawWord.calls k g429 t426 t434 t435 _ _ t430 t433 t436 t439 t440 w _ ?side1 ?side2 ?side3 ?side4 A4.out).mono ?_); (case side1 => repeat (first | (with_reducible first | exact HI429.out | apply IsS62.alloc | apply IsS62.drewN | apply IsS62.drew | apply IsS62.set_1 | apply IsS62.set_2) | exact HI429.out)); (case side2 => repeat (first | (with_reducible first | exact HB.out | apply zBa | apply zBn | apply zBd | refine zBs ?_ (IsS62.ge HI429.out)) | exact HB.out)); (case side3 => exact Kd.C_foot_own ((Kd.S_R (IsS62.apartS (show IsS62 w _ g429 t426 t434 t435 from by repeat (first | (with_reducible first | exact HI429.out | apply IsS62.alloc | apply IsS62.drewN | apply IsS62.drew | apply IsS62.set_1 | apply IsS62.set_2) | exact HI429.out)) (by (with_reducible repeat (first | apply Kd.S_alloc | apply Kd.S_drewN | apply Kd.S_drew)); first | exact HO432.out | (subst_vars; exact HO432.out)) (by decide)))) (fun _ h_ => h_.2)); (case side4 => exact (Kd.S_reads' HO432.out).2.1); rintro e w27 ⟨v437, rfl, ho0, hi, hb, hk⟩; refine ⟨_, rfl, ?_⟩; have n0_ := zM (Kd.S_mono (Kd.S_told (Kd.S_oldK (IsS62.apartS (show IsS62 w _ g429 t426 t434 t435 from by repeat (first | (with_reducible first | exact HI429.out | apply IsS62.alloc | apply IsS62.drewN | apply IsS62.drew | apply IsS62.set_1 | apply IsS62.set_2) | exact HI429.out)) (by (with_reducible repeat (first | apply Kd.S_alloc | apply Kd.S_drewN | apply Kd.S_drew)); first | exact HO432.out | (subst_vars; exact HO432.out)) (by decide)) hk) (Kd.R_base ho0)) (fun _ h_ => h_.1)); have n1_ := zM (Kd.R_lower ho0 (below_size (by repeat (first | (with_reducible first | exact HB.out | apply zBa | apply zBn | apply zBd | refine zBs ?_ (IsS62.ge HI429.out)) | exact HB.out)))); have n2_ := zM (hb); have n3_ := zM (hi); clear HO432; clear HB; clear HI429; have HO432 := n0_; have HO438 := n1_; have HB := n2_; have HI429 := n3_; clear n0_ n1_ n2_ n3_; (try clear hb); (try clear hb2); (try clear hk); (try clear hi); (try clear ho0)) | ((with_reducible refine gate_callee (f := 49) rfl ?_); refine goesL_ (some 20) rfl rfl Try.func49 (by kernel_rfl) rfl #[.pointer (some ⟨g429, 0, none⟩), .int .i64 30] rfl (by (try simp only [List.map_toArray, List.map_cons, List.map_nil]); first | done | rfl | (simp only [List.length_drop, List.length_take]; rfl)) ?_; (with_reducible refine (spec_l1Once.calls g429 t426 t439 t440 30 false t442 t443 w _ ?side1 ?side2 A5.out).mono ?_); (case side1 => repeat (first | (with_reducible first | exact HI429.out | apply IsS62.alloc | apply IsS62.drewN | apply IsS62.drew | apply IsS62.set_1 | apply IsS62.set_2) | exact HI429.out)); (case side2 => repeat (first | (with_reducible first | exact HB.out | apply zBa | apply zBn | apply zBd | refine zBs ?_ (IsS62.ge HI429.out)) | exact HB.out)); rintro e w28 ⟨rfl, hi, hb, hk⟩; refine ⟨_, rfl, ?_⟩; have n0_ := zM (Kd.S_mono (Kd.S_keep (IsS62.apartS (show IsS62 w _ g429 t426 t439 t440 from by repeat (first | (with_reducible first | exact HI429.out | apply IsS62.alloc | apply IsS62.drewN | apply IsS62.drew | apply IsS62.set_1 | apply IsS62.set_2) | exact HI429.out)) (by (with_reducible repeat (first | apply Kd.S_alloc | apply Kd.S_drewN | apply Kd.S_drew)); first | exact HO432.out | (subst_vars; exact HO432.out)) (by decide)) hk (fun _ h => h.2)) (fun _ h => h.1)); have n1_ := zM (Kd.R_mono (Kd.R_keep (IsS62.apart (show IsS62 w _ g429 t426 t439 t440 from by repeat (first | (with_reducible first | exact HI429.out | apply IsS62.alloc | apply IsS62.drewN | apply IsS62.drew | apply IsS62.set_1 | apply IsS62.set_2) | exact HI429.out)) (by (with_reducible repeat (first | apply zRa | apply zRn | apply zRd)); first | exact HO438.out | (subst_vars; exact HO438.out)) (by decide)) hk (fun _ h => h.2)) (fun _ h => h.1)); have n2_ := zM (hb); have n3_ := zM (hi); clear HO432; clear HO438; clear HB; clear HI429; have HO432 := n0_; have HO438 := n1_; have HB := n2_; have HI429 := n3_; clear n0_ n1_ n2_ n3_; (try clear hb); (try clear hb2); (try clear hk); (try clear hi)))
  go_ret2
  exact ⟨_, _, by first | rfl | (simp [errW_none, errW_some] <;> rfl) | (simp [*, errW_none, errW_some] <;> rfl), by (with_reducible repeat (first | apply Kd.S_alloc | apply Kd.S_drewN | apply Kd.S_drew)); first | exact Kd.S_mono HO432.out (fun _ hk => hk.2) | (subst_vars; exact Kd.S_mono HO432.out (fun _ hk => hk.2)), by (with_reducible repeat (first | apply zRa | apply zRn | apply zRd)); first | exact HO438.out | (subst_vars; exact HO438.out), by repeat (first | (with_reducible first | exact HB.out | apply zBa | apply zBn | apply zBd | refine zBs ?_ (IsS62.ge HI429.out)) | exact HB.out)⟩
 subst c6
 have H1 : (if (t436.length : Int) > 0 then (if 0 < (t436.length : Int) then (some (t430, (t436.set (0 : Int).toNat 2))) else (none)) else (some (t430, t436))) = some (r1, r2) := by rw [if_pos rfl] at H; exact H
 clear H
 have H := H1
 clear H1
 by_cases c7 : (t436.length : Int) > 0
 case neg =>
  rw [if_neg c7] at H
  have c7b0 : decide (0 < (t436.length : Int)) = false := decide_eq_false c7
  have c7b1 : decide (0 < t436.length) = false := decide_eq_false (by omega)
  clear c7
  simp only [Option.some.injEq, Prod.mk.injEq] at H
  obtain ⟨rfl, rfl⟩ := H
  go_enter Try.func55, Try.ntmps55
  go_wp2_with (first | ((with_reducible refine gate_callee (f := 47) rfl ?_); refine goesL_ (some 9) rfl rfl Try.func47 (by kernel_rfl) rfl #[.slice A0 l0.length c0] rfl (by (try simp only [List.map_toArray, List.map_cons, List.map_nil]); first | done | rfl | (simp only [List.length_drop, List.length_take]; rfl)) ?_; (with_reducible refine (spec_l1New.calls k _ _ l0 t426 t427 t428 w _ ?side1 ?side2 ?side3 A2.out).mono ?_); (case side1 => repeat (first | (with_reducible first | exact HB.out | apply zBa | apply zBn | apply zBd) | exact HB.out)); (case side2 => exact HR0.out); (case side3 => exact HC0.out); rintro e w18 ⟨g429, rfl, hi, hb, hb2⟩; refine ⟨_, rfl, ?_⟩; have n0_ := zM (hb); have n1_ := zM (hi); clear HB; have HB := n0_; have HI429 := n1_; clear n0_ n1_; (try clear hb); (try clear hb2); (try clear hk); (try clear hi)) | ((with_reducible refine gate_callee (f := 52) rfl ?_); refine goesL_ (some 12) rfl rfl Try.func52 (by kernel_rfl) rfl #[.pointer (some ⟨g429, 0, none⟩)] rfl (by (try simp only [List.map_toArray, List.map_cons, List.map_nil]); first | done | rfl | (simp only [List.length_drop, List.length_take]; rfl)) ?_; (with_reducible refine (spec_l16Draw.calls k g429 t426 t427 t428 t430 t433 t434 t435 w _ ?side1 ?side2 A3.out).mono ?_); (case side1 => repeat (first | (with_reducible first | exact HI429.out | apply IsS62.alloc | apply IsS62.drewN | apply IsS62.drew | apply IsS62.set_1 | apply IsS62.set_2) | exact HI429.out)); (case side2 => repeat (first | (with_reducible first | exact HB.out | apply zBa | apply zBn | apply zBd | refine zBs ?_ (IsS62.ge HI429.out)) | exact HB.out)); rintro e w19 ⟨v431, rfl, ho0, hi, hb, hk⟩; refine ⟨_, rfl, ?_⟩; have n0_ := zM (Kd.S_lower ho0 (below_size (by repeat (first | (with_reducible first | exact HB.out | apply zBa | apply zBn | apply zBd | refine zBs ?_ (IsS62.ge HI429.out)) | exact HB.out)))); have n1_ := zM (hb); have n2_ := zM (hi); clear HB; clear HI429; have HO432 := n0_; have HB := n1_; have HI429 := n2_; clear n0_ n1_ n2_; (try clear hb); (try clear hb2); (try clear hk); (try clear hi); (try clear ho0); obtain ⟨Ao20, co20, eo20⟩ := Kd.S_slice HO432.out; subst eo20) | ((with_reducible refine gate_callee (f := 58) rfl ?_); refine goesL_ (some 18) rfl rfl Try.func58 (by kernel_rfl) rfl #[.pointer (some ⟨g429, 0, none⟩), .slice Ao20 t430.length co20, .int .i64 t433] rfl (by (try simp only [List.map_toArray, List.map_cons, List.map_nil]); first | done | rfl | (simp only [List.length_drop, List.length_take]; rfl)) ?_; (with_reducible refine (spec_l16DrawWord.calls k g429 t426 t434 t435 _ _ t430 t433 t436 t439 t440 w _ ?side1 ?side2 ?side3 ?side4 A4.out).mono ?_); (case side1 => repeat (first | (with_reducible first | exact HI429.out | apply IsS62.alloc | apply IsS62.drewN | apply IsS62.drew | apply IsS62.set_1 | apply IsS62.set_2) | exact HI429.out)); (case side2 => repeat (first | (with_reducible first | exact HB.out | apply zBa | apply zBn | apply zBd | refine zBs ?_ (IsS62.ge HI429.out)) | exact HB.out)); (case side3 => exact Kd.C_foot_own ((Kd.S_R (IsS62.apartS (show IsS62 w _ g429 t426 t434 t435 from by repeat (first | (with_reducible first | exact HI429.out | apply IsS62.alloc | apply IsS62.drewN | apply IsS62.drew | apply IsS62.set_1 | apply IsS62.set_2) | exact HI429.out)) (by (with_reducible repeat (first | apply Kd.S_alloc | apply Kd.S_drewN | apply Kd.S_drew)); first | exact HO432.out | (subst_vars; exact HO432.out)) (by decide)))) (fun _ h_ => h_.2)); (case side4 => exact (Kd.S_reads' HO432.out).2.1); rintro e w21 ⟨v437, rfl, ho0, hi, hb, hk⟩; refine ⟨_, rfl, ?_⟩; have n0_ := zM (Kd.S_mono (Kd.S_told (Kd.S_oldK (IsS62.apartS (show IsS62 w _ g429 t426 t434 t435 from by repeat (first | (with_reducible first | exact HI429.out | apply IsS62.alloc | apply IsS62.drewN | apply IsS62.drew | apply IsS62.set_1 | apply IsS62.set_2) | exact HI429.out)) (by (with_reducible repeat (first | apply Kd.S_alloc | apply Kd.S_drewN | apply Kd.S_drew)); first | exact HO432.out | (subst_vars; exact HO432.out)) (by decide)) hk) (Kd.R_base ho0)) (fun _ h_ => h_.1)); have n1_ := zM (Kd.R_lower ho0 (below_size (by repeat (first | (with_reducible first | exact HB.out | apply zBa | apply zBn | apply zBd | refine zBs ?_ (IsS62.ge HI429.out)) | exact HB.out)))); have n2_ := zM (hb); have n3_ := zM (hi); clear HO432; clear HB; clear HI429; have HO432 := n0_; have HO438 := n1_; have HB := n2_; have HI429 := n3_; clear n0_ n1_ n2_ n3_; (try clear hb); (try clear hb2); (try clear hk); (try clear hi); (try clear ho0)) | ((with_reducible refine gate_callee (f := 49) rfl ?_); refine goesL_ (some 20) rfl rfl Try.func49 (by kernel_rfl) rfl #[.pointer (some ⟨g429, 0, none⟩), .int .i64 30] rfl (by (try simp only [List.map_toArray, List.map_cons, List.map_nil]); first | done | rfl | (simp only [List.length_drop, List.length_take]; rfl)) ?_; (with_reducible refine (spec_l1Once.calls g429 t426 t439 t440 30 true t442 t443 w _ ?side1 ?side2 A5.out).mono ?_); (case side1 => repeat (first | (with_reducible first | exact HI429.out | apply IsS62.alloc | apply IsS62.drewN | apply IsS62.drew | apply IsS62.set_1 | apply IsS62.set_2) | exact HI429.out)); (case side2 => repeat (first | (with_reducible first | exact HB.out | apply zBa | apply zBn | apply zBd | refine zBs ?_ (IsS62.ge HI429.out)) | exact HB.out)); rintro e w22 ⟨rfl, hi, hb, hk⟩; refine ⟨_, rfl, ?_⟩; have n0_ := zM (Kd.S_mono (Kd.S_keep (IsS62.apartS (show IsS62 w _ g429 t426 t439 t440 from by repeat (first | (with_reducible first | exact HI429.out | apply IsS62.alloc | apply IsS62.drewN | apply IsS62.drew | apply IsS62.set_1 | apply IsS62.set_2) | exact HI429.out)) (by (with_reducible repeat (first | apply Kd.S_alloc | apply Kd.S_drewN | apply Kd.S_drew)); first | exact HO432.out | (subst_vars; exact HO432.out)) (by decide)) hk (fun _ h => h.2)) (fun _ h => h.1)); have n1_ := zM (Kd.R_mono (Kd.R_keep (IsS62.apart (show IsS62 w _ g429 t426 t439 t440 from by repeat (first | (with_reducible first | exact HI429.out | apply IsS62.alloc | apply IsS62.drewN | apply IsS62.drew | apply IsS62.set_1 | apply IsS62.set_2) | exact HI429.out)) (by (with_reducible repeat (first | apply zRa | apply zRn | apply zRd)); first | exact HO438.out | (subst_vars; exact HO438.out)) (by decide)) hk (fun _ h => h.2)) (fun _ h => h.1)); have n2_ := zM (hb); have n3_ := zM (hi); clear HO432; clear HO438; clear HB; clear HI429; have HO432 := n0_; have HO438 := n1_; have HB := n2_; have HI429 := n3_; clear n0_ n1_ n2_ n3_; (try clear hb); (try clear hb2); (try clear hk); (try clear hi); obtain ⟨Ao23, co23, eo23⟩ := Kd.R_slice HO438.out; subst eo23))
  go_ret2
  exact ⟨_, _, by first | rfl | (simp [errW_none, errW_some] <;> rfl) | (simp [*, errW_none, errW_some] <;> rfl), by (with_reducible repeat (first | apply Kd.S_alloc | apply Kd.S_drewN | apply Kd.S_drew)); first | exact Kd.S_mono HO432.out (fun _ hk => hk.2) | (subst_vars; exact Kd.S_mono HO432.out (fun _ hk => hk.2)), by (with_reducible repeat (first | apply zRa | apply zRn | apply zRd)); first | exact HO438.out | (subst_vars; exact HO438.out), by repeat (first | (with_reducible first | exact HB.out | apply zBa | apply zBn | apply zBd | refine zBs ?_ (IsS62.ge HI429.out)) | exact HB.out)⟩
 rw [if_pos c7] at H
 have c7b0 : decide (0 < (t436.length : Int)) = true := zE c7
 have c7b1 : decide (0 < t436.length) = true := zE (by omega)
 clear c7
 by_cases c8 : 0 < (t436.length : Int)
 case neg =>
  rw [if_neg c8] at H
  exact absurd H (by simp)
 rw [if_pos c8] at H
 have c8b0 : decide (0 < (t436.length : Int)) = true := zE c8
 have c8b1 : decide (0 < t436.length) = true := zE (by omega)
 clear c8
 obtain ⟨y444, hy444⟩ : ∃ y_ : List Int, y_ = (t436.set (0 : Int).toNat 2) := ⟨_, rfl⟩
 replace H : (some (t430, y444)) = some (r1, r2) := by first | (rw [hy444]; with_reducible exact H) | (have H2_ := (Option.bind_some _ _).symm.trans H; rw [hy444]; with_reducible exact H2_) | (have H2_ := (Option.bind_some _ _).symm.trans H; with_reducible exact H2_) | with_reducible exact H | (rw [hy444]; exact H) | exact H
 have Ny444 := zM hy444
 clear hy444
 simp only [Option.some.injEq, Prod.mk.injEq] at H
 obtain ⟨rfl, rfl⟩ := H
 go_enter Try.func55, Try.ntmps55
 go_wp2_with (first | ((with_reducible refine gate_callee (f := 47) rfl ?_); refine goesL_ (some 9) rfl rfl Try.func47 (by kernel_rfl) rfl #[.slice A0 l0.length c0] rfl (by (try simp only [List.map_toArray, List.map_cons, List.map_nil]); first | done | rfl | (simp only [List.length_drop, List.length_take]; rfl)) ?_; (with_reducible refine (spec_l1New.calls k _ _ l0 t426 t427 t428 w _ ?side1 ?side2 ?side3 A2.out).mono ?_); (case side1 => repeat (first | (with_reducible first | exact HB.out | apply zBa | apply zBn | apply zBd) | exact HB.out)); (case side2 => exact HR0.out); (case side3 => exact HC0.out); rintro e w10 ⟨g429, rfl, hi, hb, hb2⟩; refine ⟨_, rfl, ?_⟩; have n0_ := zM (hb); have n1_ := zM (hi); clear HB; have HB := n0_; have HI429 := n1_; clear n0_ n1_; (try clear hb); (try clear hb2); (try clear hk); (try clear hi)) | ((with_reducible refine gate_callee (f := 52) rfl ?_); refine goesL_ (some 12) rfl rfl Try.func52 (by kernel_rfl) rfl #[.pointer (some ⟨g429, 0, none⟩)] rfl (by (try simp only [List.map_toArray, List.map_cons, List.map_nil]); first | done | rfl | (simp only [List.length_drop, List.length_take]; rfl)) ?_; (with_reducible refine (spec_l16Draw.calls k g429 t426 t427 t428 t430 t433 t434 t435 w _ ?side1 ?side2 A3.out).mono ?_); (case side1 => repeat (first | (with_reducible first | exact HI429.out | apply IsS62.alloc | apply IsS62.drewN | apply IsS62.drew | apply IsS62.set_1 | apply IsS62.set_2) | exact HI429.out)); (case side2 => repeat (first | (with_reducible first | exact HB.out | apply zBa | apply zBn | apply zBd | refine zBs ?_ (IsS62.ge HI429.out)) | exact HB.out)); rintro e w11 ⟨v431, rfl, ho0, hi, hb, hk⟩; refine ⟨_, rfl, ?_⟩; have n0_ := zM (Kd.S_lower ho0 (below_size (by repeat (first | (with_reducible first | exact HB.out | apply zBa | apply zBn | apply zBd | refine zBs ?_ (IsS62.ge HI429.out)) | exact HB.out)))); have n1_ := zM (hb); have n2_ := zM (hi); clear HB; clear HI429; have HO432 := n0_; have HB := n1_; have HI429 := n2_; clear n0_ n1_ n2_; (try clear hb); (try clear hb2); (try clear hk); (try clear hi); (try clear ho0); obtain ⟨Ao12, co12, eo12⟩ := Kd.S_slice HO432.out; subst eo12) | ((with_reducible refine gate_callee (f := 58) rfl ?_); refine goesL_ (some 18) rfl rfl Try.func58 (by kernel_rfl) rfl #[.pointer (some ⟨g429, 0, none⟩), .slice Ao12 t430.length co12, .int .i64 t433] rfl (by (try simp only [List.map_toArray, List.map_cons, List.map_nil]); first | done | rfl | (simp only [List.length_drop, List.length_take]; rfl)) ?_; (with_reducible refine (spec_l16DrawWord.calls k g429 t426 t434 t435 _ _ t430 t433 t436 t439 t440 w _ ?side1 ?side2 ?side3 ?side4 A4.out).mono ?_); (case side1 => repeat (first | (with_reducible first | exact HI429.out | apply IsS62.alloc | apply IsS62.drewN | apply IsS62.drew | apply IsS62.set_1 | apply IsS62.set_2) | exact HI429.out)); (case side2 => repeat (first | (with_reducible first | exact HB.out | apply zBa | apply zBn | apply zBd | refine zBs ?_ (IsS62.ge HI429.out)) | exact HB.out)); (case side3 => exact Kd.C_foot_own ((Kd.S_R (IsS62.apartS (show IsS62 w _ g429 t426 t434 t435 from by repeat (first | (with_reducible first | exact HI429.out | apply IsS62.alloc | apply IsS62.drewN | apply IsS62.drew | apply IsS62.set_1 | apply IsS62.set_2) | exact HI429.out)) (by (with_reducible repeat (first | apply Kd.S_alloc | apply Kd.S_drewN | apply Kd.S_drew)); first | exact HO432.out | (subst_vars; exact HO432.out)) (by decide)))) (fun _ h_ => h_.2)); (case side4 => exact (Kd.S_reads' HO432.out).2.1); rintro e w13 ⟨v437, rfl, ho0, hi, hb, hk⟩; refine ⟨_, rfl, ?_⟩; have n0_ := zM (Kd.S_mono (Kd.S_told (Kd.S_oldK (IsS62.apartS (show IsS62 w _ g429 t426 t434 t435 from by repeat (first | (with_reducible first | exact HI429.out | apply IsS62.alloc | apply IsS62.drewN | apply IsS62.drew | apply IsS62.set_1 | apply IsS62.set_2) | exact HI429.out)) (by (with_reducible repeat (first | apply Kd.S_alloc | apply Kd.S_drewN | apply Kd.S_drew)); first | exact HO432.out | (subst_vars; exact HO432.out)) (by decide)) hk) (Kd.R_base ho0)) (fun _ h_ => h_.1)); have n1_ := zM (Kd.R_lower ho0 (below_size (by repeat (first | (with_reducible first | exact HB.out | apply zBa | apply zBn | apply zBd | refine zBs ?_ (IsS62.ge HI429.out)) | exact HB.out)))); have n2_ := zM (hb); have n3_ := zM (hi); clear HO432; clear HB; clear HI429; have HO432 := n0_; have HO438 := n1_; have HB := n2_; have HI429 := n3_; clear n0_ n1_ n2_ n3_; (try clear hb); (try clear hb2); (try clear hk); (try clear hi); (try clear ho0)) | ((with_reducible refine gate_callee (f := 49) rfl ?_); refine goesL_ (some 20) rfl rfl Try.func49 (by kernel_rfl) rfl #[.pointer (some ⟨g429, 0, none⟩), .int .i64 30] rfl (by (try simp only [List.map_toArray, List.map_cons, List.map_nil]); first | done | rfl | (simp only [List.length_drop, List.length_take]; rfl)) ?_; (with_reducible refine (spec_l1Once.calls g429 t426 t439 t440 30 true t442 t443 w _ ?side1 ?side2 A5.out).mono ?_); (case side1 => repeat (first | (with_reducible first | exact HI429.out | apply IsS62.alloc | apply IsS62.drewN | apply IsS62.drew | apply IsS62.set_1 | apply IsS62.set_2) | exact HI429.out)); (case side2 => repeat (first | (with_reducible first | exact HB.out | apply zBa | apply zBn | apply zBd | refine zBs ?_ (IsS62.ge HI429.out)) | exact HB.out)); rintro e w14 ⟨rfl, hi, hb, hk⟩; refine ⟨_, rfl, ?_⟩; have n0_ := zM (Kd.S_mono (Kd.S_keep (IsS62.apartS (show IsS62 w _ g429 t426 t439 t440 from by repeat (first | (with_reducible first | exact HI429.out | apply IsS62.alloc | apply IsS62.drewN | apply IsS62.drew | apply IsS62.set_1 | apply IsS62.set_2) | exact HI429.out)) (by (with_reducible repeat (first | apply Kd.S_alloc | apply Kd.S_drewN | apply Kd.S_drew)); first | exact HO432.out | (subst_vars; exact HO432.out)) (by decide)) hk (fun _ h => h.2)) (fun _ h => h.1)); have n1_ := zM (Kd.R_mono (Kd.R_keep (IsS62.apart (show IsS62 w _ g429 t426 t439 t440 from by repeat (first | (with_reducible first | exact HI429.out | apply IsS62.alloc | apply IsS62.drewN | apply IsS62.drew | apply IsS62.set_1 | apply IsS62.set_2) | exact HI429.out)) (by (with_reducible repeat (first | apply zRa | apply zRn | apply zRd)); first | exact HO438.out | (subst_vars; exact HO438.out)) (by decide)) hk (fun _ h => h.2)) (fun _ h => h.1)); have n2_ := zM (hb); have n3_ := zM (hi); clear HO432; clear HO438; clear HB; clear HI429; have HO432 := n0_; have HO438 := n1_; have HB := n2_; have HI429 := n3_; clear n0_ n1_ n2_ n3_; (try clear hb); (try clear hb2); (try clear hk); (try clear hi); obtain ⟨Ao15, co15, eo15⟩ := Kd.R_slice HO438.out; subst eo15; have p9 : 0 ≤ (0 : Int) := (by omega); have q9 : (0 : Int) < ((t436.length : Int) : Int) := zT (by assumption); have qi9 : (0 < t436.length) = True := eq_true (by omega); obtain ⟨go9, co9, eo9, gb9, gl9, cl9, HG9⟩ := Kd.R_form HO438.out (by omega); (first | cases eo9 | (injection eo9 with ea_ en_ ec_; (first | subst ea_ | (injection ea_ with ea_; subst ea_)); subst ec_; clear en_)); have GB9 := zM gb9; have GG9 := zM HG9; clear gb9 gl9 HG9; obtain ⟨hx9_0, hf9_0⟩ := Kd.R_celln 0 HO438.out (0 : Int) p9 q9; (try rw [show ((0 : Int)).toNat = 0 from rfl] at hx9_0); (try simp only [Nat.reduceMul, Nat.zero_mul, Nat.zero_add, Nat.reduceAdd] at hx9_0); (try rw [show ((0 : Int)).toNat = 0 from rfl] at hf9_0); (try simp only [Nat.reduceMul, Nat.zero_mul, Nat.zero_add, Nat.reduceAdd] at hf9_0); replace p9 := eq_true p9; replace q9 := eq_true q9; obtain ⟨hy16_, hz16_⟩ := Kd.R_celln 0 HO438.out (0 : Int) (by omega) (zT (by assumption)); (try simp only [Int.reduceToNat, Int.toNat_zero, Int.toNat_ofNat, Nat.reduceMul, Nat.zero_mul, Nat.zero_add] at hy16_ hz16_); (try rw [show ((0 : Int)).toNat = 0 from rfl] at hy16_); (try rw [show ((0 : Int)).toNat = 0 from rfl] at hz16_); have HP16 := Kd.R_putg HO438.out (0 : Int) 2) | ((with_reducible refine gate_store (t := 3) (p := 27) rfl ?_); refine store_event (t := 3) (p := 27) (v := ?vo_w17) (w1 := (w14.setCell ⟨go9, (0 : Int).toNat, none⟩ (.int .i64 2))) ?hg ?ho ?hn ?hr ?_; (case ho => rfl); (case hg => rfl); (case hn => rfl); (case hr => first | (go_simp; done) | (go_simp; rfl)); intro w17 hw; have hg : w14.grownBy w17 (some go9) := (by rw [hw]; exact HP16.2); have hp_ : Kd.R (Kd.int .i64) 3 w17 w.heap.size (fun _ => True) (.slice (some ⟨go9, 0, none⟩) t436.length co15) y444 := (by rw [hw, Ny444.out]; exact HP16.1); clear HP16; have n0_ := zM (IsS62.grown (by repeat (first | (with_reducible first | exact HI429.out | apply IsS62.alloc | apply IsS62.drewN | apply IsS62.drew | apply IsS62.set_1 | apply IsS62.set_2) | exact HI429.out)) hg (IsS62.own_ne HI429.out HO438.out (by decide))); have n1_ := zM (Kd.S_after (v := (.slice (some ⟨go9, 0, none⟩) t436.length co15)) (v1 := (.slice (some ⟨go9, 0, none⟩) t436.length co15)) (ok := (fun _ => True)) (by (with_reducible repeat (first | apply Kd.S_alloc | apply Kd.S_drewN | apply Kd.S_drew)); first | exact HO432.out | (subst_vars; exact HO432.out)) hg (.inl rfl)); have n2_ := zM (hp_); have n3_ := zM ((by rw [hw]; exact zBs (HB.out) GB9.out : Below w.heap.size w w17)); clear HI429; clear HO432; clear HO438; clear HB; have HI429 := n0_; have HO432 := n1_; have HO438 := n2_; have HB := n3_; clear n0_ n1_ n2_ n3_; clear hg hw hp_))
 go_ret2
 exact ⟨_, _, by first | rfl | (simp [errW_none, errW_some] <;> rfl) | (simp [*, errW_none, errW_some] <;> rfl), by (with_reducible repeat (first | apply Kd.S_alloc | apply Kd.S_drewN | apply Kd.S_drew)); first | exact Kd.S_mono HO432.out (fun _ hk => hk.2) | (subst_vars; exact Kd.S_mono HO432.out (fun _ hk => hk.2)), by (with_reducible repeat (first | apply zRa | apply zRn | apply zRd)); first | exact HO438.out | (subst_vars; exact HO438.out), by repeat (first | (with_reducible first | exact HB.out | apply zBa | apply zBn | apply zBd | refine zBs ?_ (IsS62.ge HI429.out)) | exact HB.out)⟩

/-! ### spec_DrawTurnBits: function 46 -/
theorem dtInfo5 : (Try.prog.info? 5).map (fun i => (i.zero, i.size, i.bytes)) = some (some (.int .u8 0), 1, 1) := by kernel_rfl
def spec_DrawTurnBits.f (k : Nat) (l0 : List Int) : Option (List (List Int) × List Int × Int) := (spec_DrawFails.f k l0).bind fun b => if l0.length < 1000000000000 then (spec_l1New.f k (l0 ++ [5])).bind fun s => (spec_l1PickInt.f s.1 s.2.1 s.2.2 [0, 1, 2, 5, 10, 50, 51, -1]).bind fun p => some (b.1, b.2, p.1) else none
theorem spec_DrawTurnBits.mono : ∀ a0 k, LeO (spec_DrawTurnBits.f k a0) (spec_DrawTurnBits.f (k + 1) a0) := by
 intro a0 k
 unfold spec_DrawTurnBits.f
 exact LeO.bind (spec_DrawFails.mono _ _) (fun _ => LeO.ite (LeO.bind (spec_l1New.mono _ _) (fun _ => LeO.refl _)) (LeO.refl _))
/-- Behind a state's call: what was made ahead of the state is as it was. -/
theorem dtBelow {w4 W W1 : World} {g : Nat} (h : Below w4.heap.size w4 W) (hk : KeepBut W W1 g none) (hb : Below w4.heap.size w4 W1) : Below w4.heap.size w4 W1 := hb
set_option maxHeartbeats 8000000 in
set_option maxRecDepth 100000 in
theorem spec_DrawTurnBits.calls (k : Nat) (A0 : Option Addr) (c0 : Nat) (l0 : List Int) (r1 : List (List Int)) (r2 : List Int) (r3 : Int) (w : World) (hr0 : Kd.C (Kd.int .u8) w A0 l0.length l0) (hc0 : l0.length ≤ c0) (h : spec_DrawTurnBits.f k l0 = some (r1, r2, r3)) :
 Calls Try.prog 46 #[.slice A0 l0.length c0] w fun e w' => ∃ v0_ v1_ : Value, e = .returned (.tuple #[v0_, v1_, .int .i64 r3]) ∧ Kd.S (Kd.slice 3 (Kd.int .i64)) 23 w' w.heap.size (fun k_ => some k_ ≠ (v1_ : Value).ownBlock) v0_ r1 ∧ Kd.R (Kd.int .i64) 3 w' w.heap.size (fun _ => True) v1_ r2 ∧ Below w.heap.size w w' := by
 have HR := zM hr0
 clear hr0
 obtain ⟨⟨b1, b2⟩, hb1, h2⟩ := zO.mp h
 clear h
 have hlen : l0.length < 1000000000000 := by
  by_cases hl : l0.length < 1000000000000
  case pos => exact hl
  simp only [if_neg hl] at h2; cases h2
 simp only [if_pos hlen] at h2
 obtain ⟨⟨s1, s2, s3⟩, hs, h3⟩ := zO.mp h2
 obtain ⟨⟨p1, p2, p3⟩, hp, h4⟩ := zO.mp h3
 simp only [Option.some.injEq, Prod.mk.injEq] at h4
 obtain ⟨rfl, rfl, rfl⟩ := h4
 have HB1 := zM hb1
 obtain ⟨y, hy⟩ : ∃ y, y = l0 ++ [5] := ⟨_, rfl⟩
 rw [← hy] at hs
 have HY := zM hy
 clear hy
 have HS1 := zM hs
 have HP1 := zM hp
 have HL := zM hlen
 clear hb1 hs hp hlen h2 h3
 go_enter Try.func46, Try.ntmps46
 go_wp2_with (first
  | (go_at_call 55; (with_reducible refine (spec_DrawFails.calls k A0 c0 l0 b1 b2 w HR.out hc0 HB1.out).mono ?_); rintro e w1 ⟨v0, v1, rfl, ho0, ho1, hb⟩; have HO0 := zM ho0; have HO1 := zM ho1; have HB := zM hb; have HBr := zM (Below.refl w1.heap.size w1); have HC1 := zM (Kd.C_below HR.out hb); clear ho0 ho1 hb)
  | ((with_reducible refine gate_dst (N := 13) rfl ?_); refine Kd.R_lit (Kd.int .u8) (w0 := w1) w1.heap.size 5 ?hg (N := 13) ?hd (xs := ([] : List Int)) (inner := []) (ok := fun _ => True) (okp := fun _ => True) ?hr ?hp (fun _ hk => hk) trivial HBr.out (Nat.le_refl _) (by simp) ?_; (case hd => rfl); (case hg => rfl); (case hr => first | (go_simp; done) | (go_simp; rfl)); (case hp => exact (Reps.none _ _)); intro v13 w2 ho hb hg_ hnew_; have HO13 := zM ho; have HB2 := zM hb; clear hg_ hnew_ ho hb)
  | ((with_reducible refine gate_builtin (b := .append) (xs := #[.tmp 13, .tmp 14]) rfl ?_); at_builtin; refine Kd.R_append_rows (Kd.int .u8) (w0 := w1) w1.heap.size rfl (.tmp 13) (.tmp 14) 36 5 (.int .u8 0) 1 rfl Try.underlying36 dtInfo5 rfl (by decide) (by omega) v13 [] l0 _ _ _ (fun _ => True) (fun _ => False) rfl rfl ?aO ?aR (fun _ _ h => h) (fun _ h => h.elim) ?aF ?aB ?aS ?aL ?_; (case aR => exact (Kd.C_below HC1.out HB2.out)); (case aB => exact HB2.out); (case aF => exact (fun _ _ => trivial)); (case aO => exact HO13.out); (case aS => exact HB2.out.size); (case aL => have := HL.out; simp only [List.length_nil]; omega); intro v15 w3 ho hb hg hat; have HO15 := zM ho; have HB3 := zM hb; clear ho hb hg hat)
  | ((with_reducible refine gate_builtin (b := .append) (xs := #[.tmp 15, .tmp 16]) rfl ?_); at_builtin; refine Kd.R_append (Kd.int .u8) (w0 := w1) w1.heap.size rfl (.tmp 15) (.tmp 16) 36 5 (.int .u8 0) 1 rfl Try.underlying36 dtInfo5 rfl (by decide) (by omega) v15 ([] ++ l0) 5 [.int .u8 5] (fun _ => True) (fun _ => False) rfl rfl rfl (fun _ hk => hk.elim) (fun _ _ => trivial) HO15.out HB3.out HB3.out.size (by have := HL.out; simp only [List.nil_append]; omega) ?_; intro v17 w4 ho hb hg hat; rw [List.nil_append, ← HY.out] at ho; have HO17 := zM ho; have HB4 := zM hb; have HBs := zM (Below.refl w4.heap.size w4); clear ho hb hg hat; obtain ⟨A17, c17, e17⟩ := Kd.R_slice HO17.out; subst e17; have HC17 := zM (Kd.R_reads' HO17.out).2)
  | (go_at_call 47; (with_reducible refine (spec_l1New.calls k A17 c17 y s1 s2 s3 w4 _ HBs.out HC17.out.2 HC17.out.1 HS1.out).mono ?_); rintro e w5 ⟨g, rfl, hi, hb, hb2⟩; have HI := zM hi; have HB5 := zM hb; have HBt := zM (Below.refl w5.heap.size w5); clear hi hb hb2)
  | ((with_reducible refine gate_dst (N := 22) rfl ?_); refine Kd.R_lit (Kd.int .i64) (w0 := w5) w5.heap.size 3 ?hg (N := 22) ?hd (xs := ([0, 1, 2, 5, 10, 50, 51, -1] : List Int)) (inner := [.int .i64 0, .int .i64 1, .int .i64 2, .int .i64 5, .int .i64 10, .int .i64 50, .int .i64 51, .int .i64 (-1)]) (ok := fun _ => True) (okp := fun _ => True) ?hr ?hp (fun _ hk => hk) trivial HBt.out (Nat.le_refl _) (by simp) ?_; (case hd => rfl); (case hg => rfl); (case hr => first | (go_simp; done) | (go_simp; rfl)); (case hp => exact (Reps.one (show Kd.M (Kd.int .i64) _ _ _ 0 [.int .i64 0] from rfl) (Reps.one (show Kd.M (Kd.int .i64) _ _ _ 1 [.int .i64 1] from rfl) (Reps.one (show Kd.M (Kd.int .i64) _ _ _ 2 [.int .i64 2] from rfl) (Reps.one (show Kd.M (Kd.int .i64) _ _ _ 5 [.int .i64 5] from rfl) (Reps.one (show Kd.M (Kd.int .i64) _ _ _ 10 [.int .i64 10] from rfl) (Reps.one (show Kd.M (Kd.int .i64) _ _ _ 50 [.int .i64 50] from rfl) (Reps.one (show Kd.M (Kd.int .i64) _ _ _ 51 [.int .i64 51] from rfl) (Reps.one (show Kd.M (Kd.int .i64) _ _ _ (-1) [.int .i64 (-1)] from rfl) (Reps.none _ _)))))))))); intro v22 w6 ho hb hg_ hnew_; have HO22 := zM ho; have HB6 := zM (below_step HB5.out hb); have HI6 := zM (IsS62.grown HI.out hg_ (by simp)); clear hg_ hnew_ ho hb; obtain ⟨A22, c22, e22⟩ := Kd.R_slice HO22.out; subst e22)
  | (go_at_call 50; refine (spec_l1PickInt.calls g s1 s2 s3 A22 c22 [0, 1, 2, 5, 10, 50, 51, -1] p1 p2 p3 w4 w6 HI6.out HB6.out (Kd.R_reads' HO22.out).2.2 (Kd.R_reads' HO22.out).2.1 (fun ad he _ hg => by subst he; have h1 := Kd.R_base HO22.out ad.block rfl; obtain ⟨_, _, hb, _⟩ := HI.out; have := blk_lt hb; omega) HP1.out).mono ?_; rintro e w7 ⟨rfl, hi, hb, hk⟩; have HB7 := zM (below_step HB4.out hb); clear hi hb hk))
 go_ret3
 exact ⟨_, _, rfl, Kd.S_below HO0.out HB7.out, Kd.R_below HO1.out HB7.out, below_step HB.out HB7.out⟩


/-! ### spec_DrawPassHints: function 24 -/
def dpHints (code w : List Int) : Nat → Nat → List Int → Int → Int → Option (List Int)
 | 0, _, acc, _, _ => some acc
 | d + 1, i, acc, p, h => (spec_l1Below.f code p h 20).bind fun u => (spec_l1Once.f code u.2.1 u.2.2 30).bind fun v =>
  if v.1 = true then (spec_l1PickInt.f code v.2.1 v.2.2 [0, 1000, -1000, 1001, -1001]).bind fun q => dpHints code w d (i + 1) (acc ++ [q.1]) q.2.1 q.2.2
  else dpHints code w d (i + 1) (acc ++ [wrap64 (wrap64 (1 - wrap64 (2 * rd w i)) * wrap64 (1 + u.1))]) v.2.1 v.2.2
def spec_DrawPassHints.f (k : Nat) (l0 : List Int) : Option (List (List Int) × List Int × Int) := (spec_DrawTurnBits.f k l0).bind fun b => if l0.length < 1000000000000 ∧ b.2.1.length < 1000000000000 then (spec_l1New.f k (l0 ++ [6])).bind fun s => (dpHints s.1 b.2.1 b.2.1.length 0 [] s.2.1 s.2.2).bind fun r => some (b.1, r, b.2.2) else none
theorem spec_DrawPassHints.mono : ∀ a0 k, LeO (spec_DrawPassHints.f k a0) (spec_DrawPassHints.f (k + 1) a0) := by
 intro a0 k
 unfold spec_DrawPassHints.f
 exact LeO.bind (spec_DrawTurnBits.mono _ _) (fun _ => LeO.ite (LeO.bind (spec_l1New.mono _ _) (fun _ => LeO.refl _)) (LeO.refl _))
theorem dpStep {code w : List Int} {i : Int} (acc : List Int) (p h : Int) (h0 : 0 ≤ i) (h1 : i < (w.length : Int)) : dpHints code w (w.length - i.toNat) i.toNat acc p h = ((spec_l1Below.f code p h 20).bind fun u => (spec_l1Once.f code u.2.1 u.2.2 30).bind fun v =>
 if v.1 = true then (spec_l1PickInt.f code v.2.1 v.2.2 [0, 1000, -1000, 1001, -1001]).bind fun q => dpHints code w (w.length - (i + 1).toNat) (i + 1).toNat (acc ++ [q.1]) q.2.1 q.2.2
 else dpHints code w (w.length - (i + 1).toNat) (i + 1).toNat (acc ++ [wrap64 (wrap64 (1 - wrap64 (2 * rd w i)) * wrap64 (1 + u.1))]) v.2.1 v.2.2) := by
 obtain ⟨c, rfl⟩ := Int.eq_ofNat_of_zero_le h0
 obtain ⟨d, hd⟩ : ∃ d, w.length - c = d + 1 := ⟨w.length - c - 1, by omega⟩
 rw [show ((c : Int)).toNat = c from rfl, show ((c : Int) + 1).toNat = c + 1 by omega, hd, show w.length - (c + 1) = d by omega]
 rfl
theorem dpW {i : Int} (h0 : 0 ≤ i) (h1 : i ≤ 1000000000000) : wrap64 (i + 1) = i + 1 := by unfold wrap64; omega
theorem dpKeep2 {W W1 : World} {g base : Nat} {v : Value} {xs : List Int} (h : (Kd.int .i64).R 3 W base (fun _ => True) v xs) (hk : KeepBut W W1 g none) (hg : g < base) : (Kd.int .i64).R 3 W1 base (fun _ => True) v xs :=
 Kd.R_mono (Kd.R_keep (Kd.R_bound h) hk (fun k hk2 => by have := hk2.2.1; omega)) (fun _ _ => trivial)
theorem dpKeep {W W1 : World} {g base : Nat} {v : Value} {xs : List Int} (h : (Kd.int .i64).R 3 W base (fun _ => True) v xs) (hk : KeepBut W.drew W1 g none) (hg : g < base) : (Kd.int .i64).R 3 W1 base (fun _ => True) v xs := dpKeep2 (zRd h) hk hg
set_option maxHeartbeats 8000000 in
set_option maxRecDepth 100000 in
theorem spec_DrawPassHints.calls (k : Nat) (A0 : Option Addr) (c0 : Nat) (l0 : List Int) (r1 : List (List Int)) (r2 : List Int) (r3 : Int) (w : World) (hr0 : Kd.C (Kd.int .u8) w A0 l0.length l0) (hc0 : l0.length ≤ c0) (h : spec_DrawPassHints.f k l0 = some (r1, r2, r3)) :
 Calls Try.prog 24 #[.slice A0 l0.length c0] w fun e w' => ∃ v0_ v1_ : Value, e = .returned (.tuple #[v0_, v1_, .int .i64 r3]) ∧ Kd.S (Kd.slice 3 (Kd.int .i64)) 23 w' w.heap.size (fun k_ => some k_ ≠ (v1_ : Value).ownBlock) v0_ r1 ∧ Kd.R (Kd.int .i64) 3 w' w.heap.size (fun _ => True) v1_ r2 ∧ Below w.heap.size w w' := by
 have HR := zM hr0
 clear hr0
 obtain ⟨⟨b1, b2, b3⟩, hb1, h2⟩ := zO.mp h
 clear h
 have hlen : l0.length < 1000000000000 ∧ b2.length < 1000000000000 := by
  by_cases hl : l0.length < 1000000000000 ∧ b2.length < 1000000000000
  case pos => exact hl
  simp only [if_neg hl] at h2; cases h2
 simp only [if_pos hlen] at h2
 obtain ⟨⟨s1, s2, s3⟩, hs, h3⟩ := zO.mp h2
 obtain ⟨q1, hp, h4⟩ := zO.mp h3
 simp only [Option.some.injEq, Prod.mk.injEq] at h4
 obtain ⟨rfl, rfl, rfl⟩ := h4
 have HB1 := zM hb1
 obtain ⟨y, hy⟩ : ∃ y, y = l0 ++ [6] := ⟨_, rfl⟩
 rw [← hy] at hs
 have HY := zM hy
 clear hy
 have HS1 := zM hs
 have HP1 := zM hp
 have HL := zM hlen
 clear hb1 hs hp hlen h2 h3
 go_enter Try.func24, Try.ntmps24
 go_wp2_with (first
  | (go_at_call 46; (with_reducible refine (spec_DrawTurnBits.calls k A0 c0 l0 b1 b2 b3 w HR.out hc0 HB1.out).mono ?_); rintro e w1 ⟨v0, v1, rfl, ho0, ho1, hb⟩; have HO0 := zM ho0; have HO1 := zM ho1; have HB := zM hb; have HBr := zM (Below.refl w1.heap.size w1); have HC1 := zM (Kd.C_below HR.out hb); clear ho0 ho1 hb)
  | ((with_reducible refine gate_dst (N := 18) rfl ?_); refine Kd.R_lit (Kd.int .u8) (w0 := w1) w1.heap.size 5 ?hg (N := 18) ?hd (xs := ([] : List Int)) (inner := []) (ok := fun _ => True) (okp := fun _ => True) ?hr ?hp (fun _ hk => hk) trivial HBr.out (Nat.le_refl _) (by simp) ?_; (case hd => rfl); (case hg => rfl); (case hr => first | (go_simp; done) | (go_simp; rfl)); (case hp => exact (Reps.none _ _)); intro v13 w2 ho hb hg_ hnew_; have HO13 := zM ho; have HB2 := zM hb; clear hg_ hnew_ ho hb)
  | ((with_reducible refine gate_builtin (b := .append) (xs := #[.tmp 18, .tmp 19]) rfl ?_); at_builtin; refine Kd.R_append_rows (Kd.int .u8) (w0 := w1) w1.heap.size rfl (.tmp 18) (.tmp 19) 36 5 (.int .u8 0) 1 rfl Try.underlying36 dtInfo5 rfl (by decide) (by omega) v13 [] l0 _ _ _ (fun _ => True) (fun _ => False) rfl rfl ?aO ?aR (fun _ _ h => h) (fun _ h => h.elim) ?aF ?aB ?aS ?aL ?_; (case aR => exact (Kd.C_below HC1.out HB2.out)); (case aB => exact HB2.out); (case aF => exact (fun _ _ => trivial)); (case aO => exact HO13.out); (case aS => exact HB2.out.size); (case aL => have := HL.out; simp only [List.length_nil]; omega); intro v15 w3 ho hb hg hat; have HO15 := zM ho; have HB3 := zM hb; clear ho hb hg hat)
  | ((with_reducible refine gate_builtin (b := .append) (xs := #[.tmp 20, .tmp 21]) rfl ?_); at_builtin; refine Kd.R_append (Kd.int .u8) (w0 := w1) w1.heap.size rfl (.tmp 20) (.tmp 21) 36 5 (.int .u8 0) 1 rfl Try.underlying36 dtInfo5 rfl (by decide) (by omega) v15 ([] ++ l0) 6 [.int .u8 6] (fun _ => True) (fun _ => False) rfl rfl rfl (fun _ hk => hk.elim) (fun _ _ => trivial) HO15.out HB3.out HB3.out.size (by have := HL.out; simp only [List.nil_append]; omega) ?_; intro v17 w4 ho hb hg hat; rw [List.nil_append, ← HY.out] at ho; have HO17 := zM ho; have HB4 := zM hb; have HBs := zM (Below.refl w4.heap.size w4); clear ho hb hg hat; obtain ⟨A17, c17, e17⟩ := Kd.R_slice HO17.out; subst e17; have HC17 := zM (Kd.R_reads' HO17.out).2)
  | (go_at_call 47; (with_reducible refine (spec_l1New.calls k A17 c17 y s1 s2 s3 w4 _ HBs.out HC17.out.2 HC17.out.1 HS1.out).mono ?_); rintro e w5 ⟨g, rfl, hi, hb, hb2⟩; have HI := zM hi; have HB5 := zM hb; have HBt := zM (Below.refl w5.heap.size w5); have HGL := zM (show g < w5.heap.size from by obtain ⟨_, _, hbq, _⟩ := hi; exact blk_lt hbq); clear hi hb hb2)
  | ((with_reducible refine gate_dst (N := 24) rfl ?_); refine Kd.R_lit (Kd.int .i64) (w0 := w5) w5.heap.size 3 ?hg (N := 24) ?hd (xs := ([] : List Int)) (inner := []) (ok := fun _ => True) (okp := fun _ => True) ?hr ?hp (fun _ hk => hk) trivial HBt.out (Nat.le_refl _) (by simp) ?_; (case hd => rfl); (case hg => rfl); (case hr => first | (go_simp; done) | (go_simp; rfl)); (case hp => exact (Reps.none _ _)); intro v24 w6 ho hb hg_ hnew_; have HZ6 := zM hb.size; have HO24 := zM ho; have HB6 := zM (below_step HB5.out hb); have HI6 := zM (IsS62.grown HI.out hg_ (by simp)); clear hg_ hnew_ ho hb))
 (try simp only [Act.put, zS1, zS2, zS3])
 obtain ⟨A1, c1, e1⟩ := Kd.R_slice HO1.out
 subst e1
 have HW5 := zM HB5.out.size
 go_loopw [9, 10] (fun u9 u10 W => ∃ (i : Int) (acc : List Int) (p h : Int), u10 = .int .i64 i ∧ Aside0 ((0 ≤ i ∧ i ≤ (b2.length : Int)) ∧ (acc.length : Int) = i) ∧ Aside0 (dpHints s1 b2 (b2.length - i.toNat) i.toNat acc p h = some q1) ∧ Aside0 (IsS62 w4 W g s1 p h) ∧ Aside0 (Kd.R (Kd.int .i64) 3 W w5.heap.size (fun _ => True) u9 acc) ∧ Aside0 (Below w4.heap.size w4 W) ∧ Aside0 (w5.heap.size ≤ W.heap.size)) (fun _ v _ => b2.length - (match v with | .int _ n => n.toNat | _ => 0))
 case atStart => exact ⟨0, [], s2, s3, rfl, ⟨by simp⟩, ⟨by simpa using HP1.out⟩, HI6, HO24, HB6, HZ6⟩
 case round =>
  clear HI6 HO24 HB6 HZ6
  obtain ⟨i, acc, p, h, rfl, HJ, HD, HI6, HO24, HB6, HSz⟩ := hrel
  obtain ⟨Wo, hWo⟩ : ∃ W, W = wr := ⟨_, rfl⟩
  subst hWo
  by_cases hi : i < (b2.length : Int)
  case neg =>
   have hlt : decide (i < (b2.length : Int)) = false := decide_eq_false hi
   have HFin := zM (show acc = q1 from by
    have h1 := HD.out
    rw [show b2.length - i.toNat = 0 by have := HJ.out; omega] at h1
    exact zI h1)
   clear hi
   have HBz := zM (below_step HB4.out HB6.out)
   go_wp2
   go_ret3
   exact ⟨_, _, rfl, Kd.S_mono (Kd.S_below (Kd.S_bound HO0.out) HBz.out) (fun k_ hk_ he_ => by have h1 := hk_.2.2.1; have h2 := Kd.R_base HO24.out k_ he_.symm; have := HB4.out.size; have := HW5.out; omega), by rw [← HFin.out]; exact Kd.R_lower HO24.out (by have := HB.out.size; have := HB4.out.size; have := HW5.out; omega), below_step HB.out HBz.out⟩
  have hlt : decide (i < (b2.length : Int)) = true := zE hi
  have hbb := below_step HB4.out HB6.out
  obtain ⟨ad, e2, hx⟩ := Kd.at_int (Kd.R_reads' HO1.out).2.2 i HJ.out.1.1 hi
  subst e2
  have hx2 := (hbb.cell (zW _ _ hx)).trans hx
  have hne : ad.block ≠ g := by
   have h1 := zW w1 _ hx
   have h2 : ad.block < w1.heap.size := by rw [add_block] at h1; exact h1
   obtain ⟨_, _, _, hge, _⟩ := HI.out
   have := HB4.out.size
   omega
  have hd := HD.out
  rw [dpStep acc p h HJ.out.1.1 hi] at hd
  obtain ⟨⟨u1, u2, u3⟩, hu, hd2⟩ := zO.mp hd
  obtain ⟨⟨n1, n2, n3⟩, hn, hd3⟩ := zO.mp hd2
  simp only at hn hd3
  have HU := zM hu
  have HN := zM hn
  have HD3 := zM hd3
  have HNE := zM hne
  have p1 := eq_true HJ.out.1.1
  have q1_ := eq_true hi
  have HQ := zM hi
  have HW := zM (dpW HJ.out.1.1 (by have := HL.out; omega))
  clear hi hx hbb hd hd2 hd3 hu hn hne HD
  go_wp2
  go_region_held3 (fun w' => w'.cell? (ad.add i.toNat) = some (.int .i64 (rd b2 i))) (first | go_keep | exact keep_cell hk (show Wo.drew.cell? _ = _ from hx2) (by rw [add_block]; exact HNE.out)) (first | (go_at_call 48; (with_reducible refine (spec_l1Below.calls g s1 p h 20 u1 u2 u3 w4 _ (IsS62.drew HI6.out) (zBd HB6.out) HU.out).mono ?_); rintro e w7 ⟨rfl, hi7, hb7, hk⟩))
  have HI7 := zM hi7
  have HB7 := zM hb7
  have HO7 := zM (dpKeep HO24.out hk HGL.out)
  have HSz7 := zM (Nat.le_trans (show w5.heap.size ≤ Wo.drew.heap.size from HSz.out) hk.1)
  have HLM := zM (show (acc.length + 1) * 8 ≤ 140737488355328 by have := HJ.out; have := HQ.out; have := HL.out; omega)
  clear hi7 hb7 hk hx2 HI6 HO24 HB6 HSz
  (try simp only [i64_w])
  cases n1 with
  | false =>
   have HD4 := zM (show dpHints s1 b2 (b2.length - (i + 1).toNat) (i + 1).toNat (acc ++ [(wrap64 (wrap64 (1 - wrap64 (2 * rd b2 i)) * wrap64 (1 + u1)))]) n2 n3 = some q1 from by have h1 := HD3.out; rw [if_neg (by decide)] at h1; exact h1)
   clear HD3
   go_wp2_with (first
    | (go_at_call 49; (with_reducible refine (spec_l1Once.calls g s1 u2 u3 30 false n2 n3 w4 _ HI7.out HB7.out HN.out).mono ?_); rintro e w8 ⟨rfl, hi, hb, hk⟩; have HI8 := zM hi; have HB8 := zM hb; have HO8 := zM (dpKeep2 HO7.out hk HGL.out); have HSz8 := zM (Nat.le_trans HSz7.out hk.1); clear hi hb hk)
    | ((with_reducible refine gate_builtin (b := .append) (xs := #[.tmp 46, .tmp 48]) rfl ?_); at_builtin; refine Kd.R_append (Kd.int .i64) (w0 := w8) w5.heap.size rfl (.tmp 46) (.tmp 48) 23 3 (.int .i64 0) 8 rfl Try.underlying23 info3 rfl (by decide) (by omega) u9 acc (wrap64 (wrap64 (1 - wrap64 (2 * rd b2 i)) * wrap64 (1 + u1))) [.int .i64 (wrap64 (wrap64 (1 - wrap64 (2 * rd b2 i)) * wrap64 (1 + u1)))] (fun _ => True) (fun _ => False) rfl rfl rfl (fun _ hk => hk.elim) (fun _ _ => trivial) HO8.out (Below.refl _ _) HSz8.out HLM.out ?_; intro v12 w9 ho hb hg hat; have HO9 := zM ho; have HI9 := zM (IsS62.grown HI8.out hg (fun he => by have h1 := Kd.R_base HO8.out g he.symm; have := HGL.out; omega)); have HB9 := zM (below_weaken HB8.out HW5.out hb); have HSz9 := zM (Nat.le_trans HSz8.out hg.size); clear ho hb hg hat))
   go_roundw
   case rel => exact ⟨i + 1, _, n2, n3, by rw [HW.out], ⟨by have := HJ.out; have := HQ.out; simp only [List.length_append, List.length_singleton]; omega⟩, HD4, HI9, HO9, HB9, HSz9⟩
   case measure => have := HJ.out; have := HQ.out; have := HW.out; first | (simp only [this]; omega) | (simp; omega) | omega
  | true =>
   have hd4 : ((spec_l1PickInt.f s1 n2 n3 [0, 1000, -1000, 1001, -1001]).bind fun q => dpHints s1 b2 (b2.length - (i + 1).toNat) (i + 1).toNat (acc ++ [q.1]) q.2.1 q.2.2) = some q1 := by have h1 := HD3.out; rw [if_pos rfl] at h1; exact h1
   obtain ⟨⟨m1, m2, m3⟩, hm, hd5⟩ := zO.mp hd4
   have HM := zM hm
   have HD4 := zM hd5
   clear HD3 hd4 hm hd5
   go_wp2_with (first
    | (go_at_call 49; (with_reducible refine (spec_l1Once.calls g s1 u2 u3 30 true n2 n3 w4 _ HI7.out HB7.out HN.out).mono ?_); rintro e w8 ⟨rfl, hi, hb, hk⟩; have HI8 := zM hi; have HB8 := zM hb; have HO8 := zM (dpKeep2 HO7.out hk HGL.out); have HSz8 := zM (Nat.le_trans HSz7.out hk.1); have HBy := zM (Below.refl w8.heap.size w8); clear hi hb hk)
    | ((with_reducible refine gate_dst (N := 44) rfl ?_); refine Kd.R_lit (Kd.int .i64) (w0 := w8) w8.heap.size 3 ?hg (N := 44) ?hd (xs := ([0, 1000, -1000, 1001, -1001] : List Int)) (inner := [.int .i64 0, .int .i64 1000, .int .i64 (-1000), .int .i64 1001, .int .i64 (-1001)]) (ok := fun _ => True) (okp := fun _ => True) ?hr ?hp (fun _ hk => hk) trivial HBy.out (Nat.le_refl _) (by simp) ?_; (case hd => rfl); (case hg => rfl); (case hr => first | (go_simp; done) | (go_simp; rfl)); (case hp => exact (Reps.one (show Kd.M (Kd.int .i64) _ _ _ 0 [.int .i64 0] from rfl) (Reps.one (show Kd.M (Kd.int .i64) _ _ _ 1000 [.int .i64 1000] from rfl) (Reps.one (show Kd.M (Kd.int .i64) _ _ _ (-1000) [.int .i64 (-1000)] from rfl) (Reps.one (show Kd.M (Kd.int .i64) _ _ _ 1001 [.int .i64 1001] from rfl) (Reps.one (show Kd.M (Kd.int .i64) _ _ _ (-1001) [.int .i64 (-1001)] from rfl) (Reps.none _ _))))))); intro v44 wa ho hb hg_ hnew_; have HO44 := zM ho; have HBa := zM (below_weaken HB8.out (Nat.le_trans HW5.out HSz8.out) hb); have HIa := zM (IsS62.grown HI8.out hg_ (by simp)); have HOa := zM (Kd.R_below HO8.out hb); have HSza := zM (Nat.le_trans HSz8.out hb.size); clear hg_ hnew_ ho hb; obtain ⟨A44, c44, e44⟩ := Kd.R_slice HO44.out; subst e44)
    | (go_at_call 50; refine (spec_l1PickInt.calls g s1 n2 n3 A44 c44 [0, 1000, -1000, 1001, -1001] m1 m2 m3 w4 wa HIa.out HBa.out (Kd.R_reads' HO44.out).2.2 (Kd.R_reads' HO44.out).2.1 (fun ad he _ hg => by subst he; have h1 := Kd.R_base HO44.out ad.block rfl; have := HSz8.out; have := HGL.out; omega) HM.out).mono ?_; rintro e wb ⟨rfl, hi, hb, hk⟩; have HIb := zM hi; have HBb := zM hb; have HOb := zM (dpKeep2 HOa.out hk HGL.out); have HSzb := zM (Nat.le_trans HSza.out hk.1); clear hi hb hk)
    | ((with_reducible refine gate_builtin (b := .append) (xs := #[.tmp 46, .tmp 48]) rfl ?_); at_builtin; refine Kd.R_append (Kd.int .i64) (w0 := wb) w5.heap.size rfl (.tmp 46) (.tmp 48) 23 3 (.int .i64 0) 8 rfl Try.underlying23 info3 rfl (by decide) (by omega) u9 acc m1 [.int .i64 m1] (fun _ => True) (fun _ => False) rfl rfl rfl (fun _ hk => hk.elim) (fun _ _ => trivial) HOb.out (Below.refl _ _) HSzb.out HLM.out ?_; intro v12 w9 ho hb hg hat; have HO9 := zM ho; have HI9 := zM (IsS62.grown HIb.out hg (fun he => by have h1 := Kd.R_base HOb.out g he.symm; have := HGL.out; omega)); have HB9 := zM (below_weaken HBb.out HW5.out hb); have HSz9 := zM (Nat.le_trans HSzb.out hg.size); clear ho hb hg hat))
   go_roundw
   case rel => exact ⟨i + 1, _, m2, m3, by rw [HW.out], ⟨by have := HJ.out; have := HQ.out; simp only [List.length_append, List.length_singleton]; omega⟩, HD4, HI9, HO9, HB9, HSz9⟩
   case measure => have := HJ.out; have := HQ.out; have := HW.out; first | (simp only [this]; omega) | (simp; omega) | omega


/-! ### laws_at: function 25 -/
def laws_at.f (l0 : List Int) (a1 : Int) : Option (Int) := if a1 < (l0.length : Int) then (if 0 ≤ a1 then (some (wrap64 (rd l0 a1))) else (none)) else (some (Int.tmod (wrap64 ((wrap64 (a1 * 7)) + (l0.length : Int))) 256))
set_option maxHeartbeats 8000000 in
set_option maxRecDepth 100000 in
theorem laws_at.calls (A0 : Option Addr) (c0 : Nat) (l0 : List Int) (a1 : Int) (r : Int) (w : World) (hr0 : Kd.C (Kd.int .u8) w A0 l0.length l0) (hc0 : l0.length ≤ c0) (h : laws_at.f l0 a1 = some r) :
 Calls Try.prog 25 #[.slice A0 l0.length c0, .int .i64 a1] w fun e w' => e = .returned (.int .i64 r) ∧ Drawn0 w w' := by
 have HR0 := zM hr0
 have HC0 := zM hc0
 clear hr0 hc0
 have H : (if a1 < (l0.length : Int) then (if 0 ≤ a1 then (some (wrap64 (rd l0 a1))) else (none)) else (some (Int.tmod (wrap64 ((wrap64 (a1 * 7)) + (l0.length : Int))) 256))) = some r := h
 clear h
 by_cases c3 : a1 < (l0.length : Int)
 case neg =>
  rw [if_neg c3] at H
  have c3b0 : decide (a1 < (l0.length : Int)) = false := decide_eq_false c3
  clear c3
  obtain rfl := zI H
  go_enter Try.func25, Try.ntmps25
  go_wp2
  go_ret
  exact ⟨by first | rfl | (simp; done) | (simp [*]; done), by repeat (first | exact Drawn0.refl _ | apply Drawn0.step)⟩
 rw [if_pos c3] at H
 have c3b0 : decide (a1 < (l0.length : Int)) = true := zE c3
 clear c3
 by_cases c4 : 0 ≤ a1
 case neg =>
  rw [if_neg c4] at H
  exact absurd H (by simp)
 rw [if_pos c4] at H
 have c4b0 : decide (0 ≤ a1) = true := zE c4
 clear c4
 obtain rfl := zI H
 have p445 : 0 ≤ (a1 : Int) := zT (by assumption)
 have q445 : a1 < (l0.length : Int) := zT (by assumption)
 obtain ⟨ad445, e445, hx445_0⟩ := Kd.at_int HR0.out a1 p445 q445
 cases e445
 replace p445 := eq_true p445
 replace q445 := eq_true q445
 go_enter Try.func25, Try.ntmps25
 go_wp2
 go_ret
 exact ⟨by first | rfl | (simp; done) | (simp [*]; done), by repeat (first | exact Drawn0.refl _ | apply Drawn0.step)⟩

/-! ### laws_sameInts: function 26 -/
def laws_sameInts.l0 : Nat → List Int → List Int → Int → Option (Bool)
 | 0, _, _, _ => none
 | k + 1, x0, x1, x5 => if x5 < (x0.length : Int) then (if 0 ≤ x5 then (if x5 < (x1.length : Int) then (if (rd x0 x5) = (rd x1 x5) then (laws_sameInts.l0 k x0 x1 (wrap64 (x5 + 1))) else (some false)) else (none)) else (none)) else (some true)
def laws_sameInts.f (k : Nat) (l0 : List Int) (l1 : List Int) : Option (Bool) := if (l0.length : Int) = (l1.length : Int) then (laws_sameInts.l0 k l0 l1 0) else (some false)
theorem laws_sameInts.mono_l : ∀ k, (∀ y0 y1 y2, LeO (laws_sameInts.l0 k y0 y1 y2) (laws_sameInts.l0 (k + 1) y0 y1 y2))
 | 0 => fun _ _ _ r h => by simp [laws_sameInts.l0] at h
 | k + 1 => by
  have ih0 := laws_sameInts.mono_l k
  ·intro y0 y1 y2
   unfold laws_sameInts.l0
   repeat' first
   | (with_reducible exact ih0 _ _ _)
   | (with_reducible exact LeO.refl _)
   | (with_reducible exact LeO.none _)
   | (with_reducible refine LeO.ite ?_ ?_)
   | (with_reducible refine LeO.bind ?_ (fun _ => ?_))
theorem laws_sameInts.mono : ∀ a0 a1 k, LeO (laws_sameInts.f k a0 a1) (laws_sameInts.f (k + 1) a0 a1) := by
 intro a0 a1 k
 have ih0 := laws_sameInts.mono_l k
 unfold laws_sameInts.f
 repeat' first
  | (with_reducible exact ih0 _ _ _)
  | (with_reducible exact LeO.refl _)
  | (with_reducible exact LeO.none _)
  | (with_reducible refine LeO.ite ?_ ?_)
  | (with_reducible refine LeO.bind ?_ (fun _ => ?_))
set_option maxHeartbeats 8000000 in
set_option maxRecDepth 100000 in
theorem laws_sameInts.calls (k : Nat) (A0 : Option Addr) (c0 : Nat) (l0 : List Int) (A1 : Option Addr) (c1 : Nat) (l1 : List Int) (r : Bool) (w : World) (hr0 : Kd.C (Kd.int .i64) w A0 l0.length l0) (hc0 : l0.length ≤ c0) (hr1 : Kd.C (Kd.int .i64) w A1 l1.length l1) (hc1 : l1.length ≤ c1) (h : laws_sameInts.f k l0 l1 = some r) :
 Calls Try.prog 26 #[.slice A0 l0.length c0, .slice A1 l1.length c1] w fun e w' => e = .returned (.bool r) ∧ Drawn0 w w' := by
 have HR0 := zM hr0
 have HC0 := zM hc0
 clear hr0 hc0
 have HR1 := zM hr1
 have HC1 := zM hc1
 clear hr1 hc1
 have H : (if (l0.length : Int) = (l1.length : Int) then (laws_sameInts.l0 k l0 l1 0) else (some false)) = some r := h
 clear h
 by_cases c3 : (l0.length : Int) = (l1.length : Int)
 case neg =>
  rw [if_neg c3] at H
  have c3b0 : ((l0.length : Int) == (l1.length : Int)) = false := beq_eq_false_iff_ne.mpr c3
  have c3b1 : ((l0.length : Int) != (l1.length : Int)) = true := bne_iff_ne.mpr c3
  have c3b2 : (l0.length == l1.length) = false := by first | simpa using c3 | (simp at c3 ⊢; omega)
  obtain rfl := zI H
  go_enter Try.func26, Try.ntmps26
  go_wp2
  repeat (go_quiet (fail); try go_wp2)
  go_ret
  exact ⟨by first | rfl | (simp; done) | (simp [*]; done), by repeat (first | exact Drawn0.refl _ | apply Drawn0.step)⟩
 rw [if_pos c3] at H
 have c3b0 : ((l0.length : Int) == (l1.length : Int)) = true := beq_iff_eq.mpr c3
 have c3b1 : ((l0.length : Int) != (l1.length : Int)) = false := bne_eq_false_iff_eq.mpr c3
 have c3b2 : (l0.length == l1.length) = true := by first | simpa using c3 | (simp at c3 ⊢; omega)
 clear c3
 have H' := zM H
 clear H
 go_enter Try.func26, Try.ntmps26
 go_wp2
 repeat (go_quiet (fail); try go_wp2)
 (try simp only [Act.put, zS1, zS2, zS3])
 go_loopg [5] k (fun kq v5 w' => ∃ (x5_1 : Int), v5 = .int .i64 x5_1 ∧ Aside0 (laws_sameInts.l0 kq l0 l1 x5_1 = some r) ∧ Aside0 (kq ≤ k) ∧ Drawn0 w w')
 case atStart => exact ⟨(0), (by first | rfl | (simp; done) | (simp [*]; done)), H', ⟨Nat.le_refl _⟩, by repeat (first | exact Drawn0.refl _ | apply Drawn0.step)⟩
 case round =>
  clear H'
  try clear c1
  try clear c2
  try clear p2
  try clear c3
  try clear c3b0
  try clear c3b1
  try clear c3b2
  obtain ⟨x5_1, rfl, HA, HK1, ⟨m1, rfl⟩⟩ := hrel
  cases gk with
  | zero => exact absurd HA.out (by simp [laws_sameInts.l0])
  | succ k1 =>
   have H := HA.out
   clear HA
   simp only [laws_sameInts.l0] at H
   by_cases c4 : x5_1 < (l0.length : Int)
   case neg =>
    rw [if_neg c4] at H
    have c4b0 : decide (x5_1 < (l0.length : Int)) = false := decide_eq_false c4
    clear c4
    obtain rfl := zI H
    go_wp2
    repeat (go_quiet (fail); try go_wp2)
    go_ret
    exact ⟨by first | rfl | (simp; done) | (simp [*]; done), by repeat (first | exact Drawn0.refl _ | apply Drawn0.step)⟩
   rw [if_pos c4] at H
   have c4b0 : decide (x5_1 < (l0.length : Int)) = true := zE c4
   clear c4
   by_cases c5 : 0 ≤ x5_1
   case neg =>
    rw [if_neg c5] at H
    exact absurd H (by simp)
   rw [if_pos c5] at H
   have c5b0 : decide (0 ≤ x5_1) = true := zE c5
   clear c5
   by_cases c6 : x5_1 < (l1.length : Int)
   case neg =>
    rw [if_neg c6] at H
    exact absurd H (by simp)
   rw [if_pos c6] at H
   have c6b0 : decide (x5_1 < (l1.length : Int)) = true := zE c6
   clear c6
   by_cases c7 : (rd l0 x5_1) = (rd l1 x5_1)
   case neg =>
    rw [if_neg c7] at H
    have c7b0 : ((rd l0 x5_1) == (rd l1 x5_1)) = false := beq_eq_false_iff_ne.mpr c7
    have c7b1 : ((rd l0 x5_1) != (rd l1 x5_1)) = true := bne_iff_ne.mpr c7
    obtain rfl := zI H
    have p446 : 0 ≤ (x5_1 : Int) := zT (by assumption)
    have q446 : x5_1 < (l0.length : Int) := zT (by assumption)
    obtain ⟨ad446, e446, hx446_0⟩ := Kd.at_int HR0.out x5_1 p446 q446
    cases e446
    replace p446 := eq_true p446
    replace q446 := eq_true q446
    have p447 : 0 ≤ (x5_1 : Int) := zT (by assumption)
    have q447 : x5_1 < (l1.length : Int) := zT (by assumption)
    obtain ⟨ad447, e447, hx447_0⟩ := Kd.at_int HR1.out x5_1 p447 q447
    cases e447
    replace p447 := eq_true p447
    replace q447 := eq_true q447
    go_wp2
    repeat (go_quiet (fail); try go_wp2)
    go_ret
    exact ⟨by first | rfl | (simp; done) | (simp [*]; done), by repeat (first | exact Drawn0.refl _ | apply Drawn0.step)⟩
   rw [if_pos c7] at H
   have c7b0 : ((rd l0 x5_1) == (rd l1 x5_1)) = true := beq_iff_eq.mpr c7
   have c7b1 : ((rd l0 x5_1) != (rd l1 x5_1)) = false := bne_eq_false_iff_eq.mpr c7
   clear c7
   have H' := zM H
   clear H
   have p446 : 0 ≤ (x5_1 : Int) := zT (by assumption)
   have q446 : x5_1 < (l0.length : Int) := zT (by assumption)
   obtain ⟨ad446, e446, hx446_0⟩ := Kd.at_int HR0.out x5_1 p446 q446
   cases e446
   replace p446 := eq_true p446
   replace q446 := eq_true q446
   have p447 : 0 ≤ (x5_1 : Int) := zT (by assumption)
   have q447 : x5_1 < (l1.length : Int) := zT (by assumption)
   obtain ⟨ad447, e447, hx447_0⟩ := Kd.at_int HR1.out x5_1 p447 q447
   cases e447
   replace p447 := eq_true p447
   replace q447 := eq_true q447
   go_wp2
   repeat (go_quiet (fail); try go_wp2)
   go_roundg k1
   case measure => have := HK1.out; omega
   case rel => exact ⟨(wrap64 (x5_1 + 1)), (by first | rfl | (simp; done) | (simp [*]; done)), H', ⟨by have := HK1.out; omega⟩, by repeat (first | exact Drawn0.refl _ | apply Drawn0.step)⟩

end Go.Proofs.Ytpphjbogijjnpaa.PFnParities
