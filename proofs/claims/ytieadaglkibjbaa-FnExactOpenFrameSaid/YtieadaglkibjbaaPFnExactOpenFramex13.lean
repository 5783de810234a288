-- Written by a turned copy of the print (see the notes of this repo): plain functions and their walks. Lean checks it.
import Derived.Test.YtieadaglkibjbaaPFnExactOpenFramex0
import Derived.Test.YtieadaglkibjbaaPFnExactOpenFramex1
import Derived.Test.YtieadaglkibjbaaPFnExactOpenFramex6
import Derived.Test.YtieadaglkibjbaaPFnExactOpenFramex12
namespace Go.Proofs.Ytieadaglkibjbaa.PFnExactOpenFrame
open Go.RowKit Go.Proofs.YtieadaglkibjbaaW.PrintWords Go.Proofs.YtieadaglkibjbaaW.PrintLast Go.Proofs.YtieadaglkibjbaaW.PrintMore
attribute [local go_sem] max2_int min2_int max_two min_two max_three min_three max_four min_four   -- for this text's walks alone
set_option linter.unusedVariables false
set_option linter.unusedSimpArgs false

/-! ### laws_FnExactOpenFrame: function 10 -/
mutual
def laws_FnExactOpenFrame.j0 : Nat → List Int → Int → List Int → Int → Int → List Int → List Int → Int → Int → Bool → Option (Bool)
 | 0, _, _, _, _, _, _, _, _, _, _ => none
 | k + 1, x0, x1, x5, x6, x7, x8, x9, x10, x11, x51 => if x51 = true then (some false) else ((laws_toByteS.f k x0).bind fun t415 => ((laws_eqByteS.f k x8 t415).bind fun t418 => (if t418 = true then ((laws_markByteS.f k x8 1).bind fun bt419 => (if bt419.1 < 0 then (laws_FnExactOpenFrame.j1 k x0 x1 x5 x6 x7 x9 true) else ((laws_eqIntS.f k x9 x5).bind fun t421 => (if t421 = true then (if x10 = x6 then (laws_FnExactOpenFrame.j1 k x0 x1 x5 x6 x7 x9 (x11 != x7)) else (laws_FnExactOpenFrame.j1 k x0 x1 x5 x6 x7 x9 true)) else (laws_FnExactOpenFrame.j1 k x0 x1 x5 x6 x7 x9 true))))) else (some false))))
def laws_FnExactOpenFrame.j1 : Nat → List Int → Int → List Int → Int → Int → List Int → Bool → Option (Bool)
 | 0, _, _, _, _, _, _, _ => none
 | k + 1, x0, x1, x5, x6, x7, x9, x77 => if x77 = true then (some false) else ((laws_markIntS.f k x9 1).bind fun bt422 => ((laws_heldIntS.f k bt422.2 1).bind fun t424 => (if t424 < 0 then (some false) else (if t424 = bt422.1 then ((laws_toByteS.f k x0).bind fun t425 => ((impl_OpenFrame.f k t425 x1).bind fun bt428 => ((laws_eqIntS.f k bt428.1 x5).bind fun t433 => (if t433 = true then (if bt428.2.1 = x6 then (laws_FnExactOpenFrame.j2 k bt422.2 bt422.1 (bt428.2.2 != x7)) else (laws_FnExactOpenFrame.j2 k bt422.2 bt422.1 true)) else (laws_FnExactOpenFrame.j2 k bt422.2 bt422.1 true))))) else (some false)))))
def laws_FnExactOpenFrame.j2 : Nat → List Int → Int → Bool → Option (Bool)
 | 0, _, _, _ => none
 | k + 1, x9, x13, x110 => if x110 = true then (some false) else ((laws_heldIntS.f k x9 1).bind fun t434 => (if t434 < 0 then (some false) else (if t434 = x13 then (some true) else (some false))))
end
def laws_FnExactOpenFrame.f (k : Nat) (l0 : List Int) (a1 : Int) : Option (Bool) := if (l0.length : Int) > 1048576 then (some true) else ((laws_toByteS.f k l0).bind fun t398 => ((spec_OpenFrame.f k t398 a1).bind fun bt401 => ((laws_toByteS.f k l0).bind fun t406 => ((impl_OpenFrame.f k t406 a1).bind fun bt409 => ((laws_eqIntS.f k bt409.1 bt401.1).bind fun t414 => (if t414 = true then (if bt409.2.1 = bt401.2.1 then (laws_FnExactOpenFrame.j0 k l0 a1 bt401.1 bt401.2.1 bt401.2.2 t406 bt409.1 bt409.2.1 bt409.2.2 (bt409.2.2 != bt401.2.2)) else (laws_FnExactOpenFrame.j0 k l0 a1 bt401.1 bt401.2.1 bt401.2.2 t406 bt409.1 bt409.2.1 bt409.2.2 true)) else (laws_FnExactOpenFrame.j0 k l0 a1 bt401.1 bt401.2.1 bt401.2.2 t406 bt409.1 bt409.2.1 bt409.2.2 true)))))))
theorem laws_FnExactOpenFrame.mono_l : ∀ k, (∀ y0 y1 y2 y3 y4 y5 y6 y7 y8 y9, LeO (laws_FnExactOpenFrame.j0 k y0 y1 y2 y3 y4 y5 y6 y7 y8 y9) (laws_FnExactOpenFrame.j0 (k + 1) y0 y1 y2 y3 y4 y5 y6 y7 y8 y9)) ∧ (∀ y0 y1 y2 y3 y4 y5 y6, LeO (laws_FnExactOpenFrame.j1 k y0 y1 y2 y3 y4 y5 y6) (laws_FnExactOpenFrame.j1 (k + 1) y0 y1 y2 y3 y4 y5 y6)) ∧ (∀ y0 y1 y2, LeO (laws_FnExactOpenFrame.j2 k y0 y1 y2) (laws_FnExactOpenFrame.j2 (k + 1) y0 y1 y2))
 | 0 => ⟨fun _ _ _ _ _ _ _ _ _ _ r h => by simp [laws_FnExactOpenFrame.j0] at h, fun _ _ _ _ _ _ _ r h => by simp [laws_FnExactOpenFrame.j1] at h, fun _ _ _ r h => by simp [laws_FnExactOpenFrame.j2] at h⟩
 | k + 1 => by
  obtain ⟨ih0, ih1, ih2⟩ := laws_FnExactOpenFrame.mono_l k
  refine ⟨?_, ?_, ?_⟩
  ·intro y0 y1 y2 y3 y4 y5 y6 y7 y8 y9
   unfold laws_FnExactOpenFrame.j0
   repeat' first
   | (with_reducible exact ih0 _ _ _ _ _ _ _ _ _ _)
   | (with_reducible exact ih1 _ _ _ _ _ _ _)
   | (with_reducible exact ih2 _ _ _)
   | (with_reducible exact impl_OpenFrame.mono _ _ _)
   | (with_reducible exact laws_eqByteS.mono _ _ _)
   | (with_reducible exact laws_eqIntS.mono _ _ _)
   | (with_reducible exact laws_heldIntS.mono _ _ _)
   | (with_reducible exact laws_markByteS.mono _ _ _)
   | (with_reducible exact laws_markIntS.mono _ _ _)
   | (with_reducible exact laws_toByteS.mono _ _)
   | (with_reducible exact spec_OpenFrame.mono _ _ _)
   | (with_reducible exact LeO.refl _)
   | (with_reducible exact LeO.none _)
   | (with_reducible refine LeO.ite ?_ ?_)
   | (with_reducible refine LeO.bind ?_ (fun _ => ?_))
   | exact ih0 _ _ _ _ _ _ _ _ _ _
   | exact ih1 _ _ _ _ _ _ _
   | exact ih2 _ _ _
   | exact impl_OpenFrame.mono _ _ _
   | exact laws_eqByteS.mono _ _ _
   | exact laws_eqIntS.mono _ _ _
   | exact laws_heldIntS.mono _ _ _
   | exact laws_markByteS.mono _ _ _
   | exact laws_markIntS.mono _ _ _
   | exact laws_toByteS.mono _ _
   | exact spec_OpenFrame.mono _ _ _
   | exact LeO.none _
   | refine LeO.ite ?_ ?_
   | refine LeO.bind ?_ (fun _ => ?_)
  ·intro y0 y1 y2 y3 y4 y5 y6
   unfold laws_FnExactOpenFrame.j1
   repeat' first
   | (with_reducible exact ih0 _ _ _ _ _ _ _ _ _ _)
   | (with_reducible exact ih1 _ _ _ _ _ _ _)
   | (with_reducible exact ih2 _ _ _)
   | (with_reducible exact impl_OpenFrame.mono _ _ _)
   | (with_reducible exact laws_eqByteS.mono _ _ _)
   | (with_reducible exact laws_eqIntS.mono _ _ _)
   | (with_reducible exact laws_heldIntS.mono _ _ _)
   | (with_reducible exact laws_markByteS.mono _ _ _)
   | (with_reducible exact laws_markIntS.mono _ _ _)
   | (with_reducible exact laws_toByteS.mono _ _)
   | (with_reducible exact spec_OpenFrame.mono _ _ _)
   | (with_reducible exact LeO.refl _)
   | (with_reducible exact LeO.none _)
   | (with_reducible refine LeO.ite ?_ ?_)
   | (with_reducible refine LeO.bind ?_ (fun _ => ?_))
   | exact ih0 _ _ _ _ _ _ _ _ _ _
   | exact ih1 _ _ _ _ _ _ _
   | exact ih2 _ _ _
   | exact impl_OpenFrame.mono _ _ _
   | exact laws_eqByteS.mono _ _ _
   | exact laws_eqIntS.mono _ _ _
   | exact laws_heldIntS.mono _ _ _
   | exact laws_markByteS.mono _ _ _
   | exact laws_markIntS.mono _ _ _
   | exact laws_toByteS.mono _ _
   | exact spec_OpenFrame.mono _ _ _
   | exact LeO.none _
   | refine LeO.ite ?_ ?_
   | refine LeO.bind ?_ (fun _ => ?_)
  ·intro y0 y1 y2
   unfold laws_FnExactOpenFrame.j2
   repeat' first
   | (with_reducible exact ih0 _ _ _ _ _ _ _ _ _ _)
   | (with_reducible exact ih1 _ _ _ _ _ _ _)
   | (with_reducible exact ih2 _ _ _)
   | (with_reducible exact impl_OpenFrame.mono _ _ _)
   | (with_reducible exact laws_eqByteS.mono _ _ _)
   | (with_reducible exact laws_eqIntS.mono _ _ _)
   | (with_reducible exact laws_heldIntS.mono _ _ _)
   | (with_reducible exact laws_markByteS.mono _ _ _)
   | (with_reducible exact laws_markIntS.mono _ _ _)
   | (with_reducible exact laws_toByteS.mono _ _)
   | (with_reducible exact spec_OpenFrame.mono _ _ _)
   | (with_reducible exact LeO.refl _)
   | (with_reducible exact LeO.none _)
   | (with_reducible refine LeO.ite ?_ ?_)
   | (with_reducible refine LeO.bind ?_ (fun _ => ?_))
   | exact ih0 _ _ _ _ _ _ _ _ _ _
   | exact ih1 _ _ _ _ _ _ _
   | exact ih2 _ _ _
   | exact impl_OpenFrame.mono _ _ _
   | exact laws_eqByteS.mono _ _ _
   | exact laws_eqIntS.mono _ _ _
   | exact laws_heldIntS.mono _ _ _
   | exact laws_markByteS.mono _ _ _
   | exact laws_markIntS.mono _ _ _
   | exact laws_toByteS.mono _ _
   | exact spec_OpenFrame.mono _ _ _
   | exact LeO.none _
   | refine LeO.ite ?_ ?_
   | refine LeO.bind ?_ (fun _ => ?_)
theorem laws_FnExactOpenFrame.mono : ∀ a0 a1 k, LeO (laws_FnExactOpenFrame.f k a0 a1) (laws_FnExactOpenFrame.f (k + 1) a0 a1) := by
 intro a0 a1 k
 obtain ⟨ih0, ih1, ih2⟩ := laws_FnExactOpenFrame.mono_l k
 unfold laws_FnExactOpenFrame.f
 repeat' first
  | (with_reducible exact ih0 _ _ _ _ _ _ _ _ _ _)
  | (with_reducible exact ih1 _ _ _ _ _ _ _)
  | (with_reducible exact ih2 _ _ _)
  | (with_reducible exact impl_OpenFrame.mono _ _ _)
  | (with_reducible exact laws_eqByteS.mono _ _ _)
  | (with_reducible exact laws_eqIntS.mono _ _ _)
  | (with_reducible exact laws_heldIntS.mono _ _ _)
  | (with_reducible exact laws_markByteS.mono _ _ _)
  | (with_reducible exact laws_markIntS.mono _ _ _)
  | (with_reducible exact laws_toByteS.mono _ _)
  | (with_reducible exact spec_OpenFrame.mono _ _ _)
  | (with_reducible exact LeO.refl _)
  | (with_reducible exact LeO.none _)
  | (with_reducible refine LeO.ite ?_ ?_)
  | (with_reducible refine LeO.bind ?_ (fun _ => ?_))
  | exact ih0 _ _ _ _ _ _ _ _ _ _
  | exact ih1 _ _ _ _ _ _ _
  | exact ih2 _ _ _
  | exact impl_OpenFrame.mono _ _ _
  | exact laws_eqByteS.mono _ _ _
  | exact laws_eqIntS.mono _ _ _
  | exact laws_heldIntS.mono _ _ _
  | exact laws_markByteS.mono _ _ _
  | exact laws_markIntS.mono _ _ _
  | exact laws_toByteS.mono _ _
  | exact spec_OpenFrame.mono _ _ _
  | exact LeO.none _
  | refine LeO.ite ?_ ?_
  | refine LeO.bind ?_ (fun _ => ?_)
set_option maxHeartbeats 8000000 in
set_option maxRecDepth 100000 in
theorem laws_FnExactOpenFrame.calls (k : Nat) (A0 : Option Addr) (c0 : Nat) (l0 : List Int) (a1 : Int) (r : Bool) (w : World) (hr0 : Kd.C (Kd.int .u8) w A0 l0.length l0) (hc0 : l0.length ≤ c0) (hr_ : r = true) (h : laws_FnExactOpenFrame.f k l0 a1 = some r) :
 Calls Try.prog 10 #[.slice A0 l0.length c0, .int .i64 a1] w fun e w' => e = .returned (.bool r) ∧ Below w.heap.size w w' := by
 have HR0 := Aside0.mk hr0
 have HC0 := Aside0.mk hc0
 clear hr0 hc0
 have HB := Aside0.mk (Below.refl w.heap.size w)
 have H : (if (l0.length : Int) > 1048576 then (some true) else ((laws_toByteS.f k l0).bind fun t398 => ((spec_OpenFrame.f k t398 a1).bind fun bt401 => ((laws_toByteS.f k l0).bind fun t406 => ((impl_OpenFrame.f k t406 a1).bind fun bt409 => ((laws_eqIntS.f k bt409.1 bt401.1).bind fun t414 => (if t414 = true then (if bt409.2.1 = bt401.2.1 then (laws_FnExactOpenFrame.j0 k l0 a1 bt401.1 bt401.2.1 bt401.2.2 t406 bt409.1 bt409.2.1 bt409.2.2 (bt409.2.2 != bt401.2.2)) else (laws_FnExactOpenFrame.j0 k l0 a1 bt401.1 bt401.2.1 bt401.2.2 t406 bt409.1 bt409.2.1 bt409.2.2 true)) else (laws_FnExactOpenFrame.j0 k l0 a1 bt401.1 bt401.2.1 bt401.2.2 t406 bt409.1 bt409.2.1 bt409.2.2 true)))))))) = some r := h
 clear h
 by_cases c3 : (l0.length : Int) > 1048576
 case pos =>
  rw [if_pos c3] at H
  have c3b0 : decide (1048576 < (l0.length : Int)) = true := zE c3
  have c3b1 : decide (1048576 < l0.length) = true := zE (by omega)
  clear c3
  obtain rfl := Option.some.inj H
  go_enter Try.func10, Try.ntmps10
  go_wp2
  go_ret
  exact ⟨by first | rfl | (simp [errW_none, errW_some] <;> rfl) | (simp [*, errW_none, errW_some] <;> rfl), by repeat (first | (with_reducible first | exact HB.out | apply zBa | apply zBn | apply zBd) | exact HB.out)⟩
 rw [if_neg c3] at H
 have c3b0 : decide (1048576 < (l0.length : Int)) = false := decide_eq_false c3
 have c3b1 : decide (1048576 < l0.length) = false := decide_eq_false (by omega)
 clear c3
 replace H := Option.bind_eq_some_iff.mp H
 obtain ⟨t398, A40, H⟩ := H
 replace H : ((spec_OpenFrame.f k t398 a1).bind fun bt401 => ((laws_toByteS.f k l0).bind fun t406 => ((impl_OpenFrame.f k t406 a1).bind fun bt409 => ((laws_eqIntS.f k bt409.1 bt401.1).bind fun t414 => (if t414 = true then (if bt409.2.1 = bt401.2.1 then (laws_FnExactOpenFrame.j0 k l0 a1 bt401.1 bt401.2.1 bt401.2.2 t406 bt409.1 bt409.2.1 bt409.2.2 (bt409.2.2 != bt401.2.2)) else (laws_FnExactOpenFrame.j0 k l0 a1 bt401.1 bt401.2.1 bt401.2.2 t406 bt409.1 bt409.2.1 bt409.2.2 true)) else (laws_FnExactOpenFrame.j0 k l0 a1 bt401.1 bt401.2.1 bt401.2.2 t406 bt409.1 bt409.2.1 bt409.2.2 true)))))) = some r := H
 have A4 := Aside0.mk A40
 clear A40
 replace H := Option.bind_eq_some_iff.mp H
 obtain ⟨⟨t401, t402, t403⟩, A50, H⟩ := H
 replace H : ((laws_toByteS.f k l0).bind fun t406 => ((impl_OpenFrame.f k t406 a1).bind fun bt409 => ((laws_eqIntS.f k bt409.1 t401).bind fun t414 => (if t414 = true then (if bt409.2.1 = t402 then (laws_FnExactOpenFrame.j0 k l0 a1 t401 t402 t403 t406 bt409.1 bt409.2.1 bt409.2.2 (bt409.2.2 != t403)) else (laws_FnExactOpenFrame.j0 k l0 a1 t401 t402 t403 t406 bt409.1 bt409.2.1 bt409.2.2 true)) else (laws_FnExactOpenFrame.j0 k l0 a1 t401 t402 t403 t406 bt409.1 bt409.2.1 bt409.2.2 true))))) = some r := H
 have A5 := Aside0.mk A50
 clear A50
 replace H := Option.bind_eq_some_iff.mp H
 obtain ⟨t406, A60, H⟩ := H
 replace H : ((impl_OpenFrame.f k t406 a1).bind fun bt409 => ((laws_eqIntS.f k bt409.1 t401).bind fun t414 => (if t414 = true then (if bt409.2.1 = t402 then (laws_FnExactOpenFrame.j0 k l0 a1 t401 t402 t403 t406 bt409.1 bt409.2.1 bt409.2.2 (bt409.2.2 != t403)) else (laws_FnExactOpenFrame.j0 k l0 a1 t401 t402 t403 t406 bt409.1 bt409.2.1 bt409.2.2 true)) else (laws_FnExactOpenFrame.j0 k l0 a1 t401 t402 t403 t406 bt409.1 bt409.2.1 bt409.2.2 true)))) = some r := H
 have A6 := Aside0.mk A60
 clear A60
 replace H := Option.bind_eq_some_iff.mp H
 obtain ⟨⟨t409, t410, t411⟩, A70, H⟩ := H
 replace H : ((laws_eqIntS.f k t409 t401).bind fun t414 => (if t414 = true then (if t410 = t402 then (laws_FnExactOpenFrame.j0 k l0 a1 t401 t402 t403 t406 t409 t410 t411 (t411 != t403)) else (laws_FnExactOpenFrame.j0 k l0 a1 t401 t402 t403 t406 t409 t410 t411 true)) else (laws_FnExactOpenFrame.j0 k l0 a1 t401 t402 t403 t406 t409 t410 t411 true))) = some r := H
 have A7 := Aside0.mk A70
 clear A70
 have HC8 := Aside0.mk H
 clear H
 go_enter Try.func10, Try.ntmps10
 go_upto_region 6 with (first | ((with_reducible refine gate_callee (f := 44) rfl ?_); refine goesL_ (some 23) rfl rfl Try.func44 (by kernel_rfl) rfl #[.slice A0 l0.length c0] rfl (by (try simp only [List.map_toArray, List.map_cons, List.map_nil]); first | done | rfl | (simp only [List.length_drop, List.length_take]; rfl)) ?_; (with_reducible refine (laws_toByteS.calls k _ _ l0 t398 _ ?side1 ?side2 A4.out).mono ?_); (case side1 => repeat (first | exact HR0.out | (with_reducible first | refine zCa ?_ _ | refine zCn ?_ _ | refine zCd ?_))); (case side2 => exact HC0.out); rintro e w9 ⟨v399, rfl, ho0, hb⟩; refine ⟨_, rfl, ?_⟩; have n0_ := Aside0.mk (Kd.R_lower ho0 (below_size (by repeat (first | (with_reducible first | exact HB.out | apply zBa | apply zBn | apply zBd) | exact HB.out)))); have n1_ := Aside0.mk (below_step (by repeat (first | (with_reducible first | exact HB.out | apply zBa | apply zBn | apply zBd) | exact HB.out)) hb); clear HB; have HO400 := n0_; have HB := n1_; clear n0_ n1_; (try clear hb); (try clear hb2); (try clear hk); (try clear hi); (try clear ho0); obtain ⟨Ao10, co10, eo10⟩ := Kd.R_slice HO400.out; subst eo10) | ((with_reducible refine gate_callee (f := 43) rfl ?_); refine goesL_ (some 25) rfl rfl Try.func43 (by kernel_rfl) rfl #[.slice Ao10 t398.length co10, .int .i64 a1] rfl (by (try simp only [List.map_toArray, List.map_cons, List.map_nil]); first | done | rfl | (simp only [List.length_drop, List.length_take]; rfl)) ?_; (with_reducible refine (spec_OpenFrame.calls k _ _ t398 a1 t401 t402 t403 _ ?side1 ?side2 A5.out).mono ?_); (case side1 => repeat (first | exact (Kd.R_reads' HO400.out).2.2 | (with_reducible first | refine zCa ?_ _ | refine zCn ?_ _ | refine zCd ?_))); (case side2 => exact (Kd.R_reads' HO400.out).2.1); rintro e w11 ⟨v404, rfl, ho0, hb⟩; refine ⟨_, rfl, ?_⟩; have n0_ := Aside0.mk (Kd.R_below (by (with_reducible repeat (first | apply zRa | apply zRn | apply zRd)); first | exact HO400.out | (subst_vars; exact HO400.out)) hb); have n1_ := Aside0.mk (Kd.R_lower ho0 (below_size (by repeat (first | (with_reducible first | exact HB.out | apply zBa | apply zBn | apply zBd) | exact HB.out)))); have n2_ := Aside0.mk (below_step (by repeat (first | (with_reducible first | exact HB.out | apply zBa | apply zBn | apply zBd) | exact HB.out)) hb); clear HO400; clear HB; have HO400 := n0_; have HO405 := n1_; have HB := n2_; clear n0_ n1_ n2_; (try clear hb); (try clear hb2); (try clear hk); (try clear hi); (try clear ho0)) | ((with_reducible refine gate_callee (f := 44) rfl ?_); refine goesL_ (some 30) rfl rfl Try.func44 (by kernel_rfl) rfl #[.slice A0 l0.length c0] rfl (by (try simp only [List.map_toArray, List.map_cons, List.map_nil]); first | done | rfl | (simp only [List.length_drop, List.length_take]; rfl)) ?_; (with_reducible refine (laws_toByteS.calls k _ _ l0 t406 _ ?side1 ?side2 A6.out).mono ?_); (case side1 => repeat (first | exact (Kd.C_below HR0.out HB.out) | (with_reducible first | refine zCa ?_ _ | refine zCn ?_ _ | refine zCd ?_))); (case side2 => exact HC0.out); rintro e w12 ⟨v407, rfl, ho0, hb⟩; refine ⟨_, rfl, ?_⟩; have n0_ := Aside0.mk (Kd.R_elder' (by (with_reducible repeat (first | apply zRa | apply zRn | apply zRd)); first | exact HO400.out | (subst_vars; exact HO400.out)) (Kd.R_base ho0) hb); have n1_ := Aside0.mk (Kd.R_below (by (with_reducible repeat (first | apply zRa | apply zRn | apply zRd)); first | exact HO405.out | (subst_vars; exact HO405.out)) hb); have n2_ := Aside0.mk (Kd.R_lower (Kd.R_new' ho0 (Kd.R_lt (by (with_reducible repeat (first | apply zRa | apply zRn | apply zRd)); first | exact HO400.out | (subst_vars; exact HO400.out)))) (below_size (by repeat (first | (with_reducible first | exact HB.out | apply zBa | apply zBn | apply zBd) | exact HB.out)))); have n3_ := Aside0.mk (below_step (by repeat (first | (with_reducible first | exact HB.out | apply zBa | apply zBn | apply zBd) | exact HB.out)) hb); clear HO400; clear HO405; clear HB; have HO400 := n0_; have HO405 := n1_; have HO408 := n2_; have HB := n3_; clear n0_ n1_ n2_ n3_; (try clear hb); (try clear hb2); (try clear hk); (try clear hi); (try clear ho0); obtain ⟨Ao13, co13, eo13⟩ := Kd.R_slice HO408.out; subst eo13) | ((with_reducible refine gate_callee (f := 42) rfl ?_); refine goesL_ (some 34) rfl rfl Try.func42 (by kernel_rfl) rfl #[.slice Ao13 t406.length co13, .int .i64 a1] rfl (by (try simp only [List.map_toArray, List.map_cons, List.map_nil]); first | done | rfl | (simp only [List.length_drop, List.length_take]; rfl)) ?_; (with_reducible refine (impl_OpenFrame.calls k _ _ t406 a1 t409 t410 t411 _ ?side1 ?side2 A7.out).mono ?_); (case side1 => repeat (first | exact (Kd.R_reads' HO408.out).2.2 | (with_reducible first | refine zCa ?_ _ | refine zCn ?_ _ | refine zCd ?_))); (case side2 => exact (Kd.R_reads' HO408.out).2.1); rintro e w14 ⟨v412, rfl, ho0, hb⟩; refine ⟨_, rfl, ?_⟩; have n0_ := Aside0.mk (Kd.R_below (by (with_reducible repeat (first | apply zRa | apply zRn | apply zRd)); first | exact HO400.out | (subst_vars; exact HO400.out)) hb); have n1_ := Aside0.mk (Kd.R_elder' (by (with_reducible repeat (first | apply zRa | apply zRn | apply zRd)); first | exact HO405.out | (subst_vars; exact HO405.out)) (Kd.R_base ho0) hb); have n2_ := Aside0.mk (Kd.R_below (by (with_reducible repeat (first | apply zRa | apply zRn | apply zRd)); first | exact HO408.out | (subst_vars; exact HO408.out)) hb); have n3_ := Aside0.mk (Kd.R_lower (Kd.R_new' ho0 (Kd.R_lt (by (with_reducible repeat (first | apply zRa | apply zRn | apply zRd)); first | exact HO405.out | (subst_vars; exact HO405.out)))) (below_size (by repeat (first | (with_reducible first | exact HB.out | apply zBa | apply zBn | apply zBd) | exact HB.out)))); have n4_ := Aside0.mk (below_step (by repeat (first | (with_reducible first | exact HB.out | apply zBa | apply zBn | apply zBd) | exact HB.out)) hb); clear HO400; clear HO405; clear HO408; clear HB; have HO400 := n0_; have HO405 := n1_; have HO408 := n2_; have HO413 := n3_; have HB := n4_; clear n0_ n1_ n2_ n3_ n4_; (try clear hb); (try clear hb2); (try clear hk); (try clear hi); (try clear ho0)))
 (try simp only [Act.put, List.setIfInBounds_toArray, List.set_cons_zero, List.set_cons_succ])
 go_cut [51] (fun v51 wc => ∃ (kq : Nat) (x51_7 : Bool), v51 = .bool x51_7 ∧ Aside0 (laws_FnExactOpenFrame.j0 kq l0 a1 t401 t402 t403 t406 t409 t410 t411 x51_7 = some r) ∧ Aside0 (kq ≤ k) ∧ Aside0 (Kd.R (Kd.int .i64) 3 wc w.heap.size (fun k_ => some k_ ≠ (v412 : Value).ownBlock) v404 t401) ∧ Aside0 (Kd.R (Kd.int .u8) 5 wc w.heap.size (fun _ => True) (.slice Ao13 t406.length co13) t406) ∧ Aside0 (Kd.R (Kd.int .i64) 3 wc w.heap.size (fun k_ => some k_ ≠ (v404 : Value).ownBlock) v412 t409) ∧ Aside0 (Below w.heap.size w wc))
 case first =>
  have H := HC8.out
  clear HC8
  replace H := Option.bind_eq_some_iff.mp H
  obtain ⟨t414, A150, H⟩ := H
  replace H : (if t414 = true then (if t410 = t402 then (laws_FnExactOpenFrame.j0 k l0 a1 t401 t402 t403 t406 t409 t410 t411 (t411 != t403)) else (laws_FnExactOpenFrame.j0 k l0 a1 t401 t402 t403 t406 t409 t410 t411 true)) else (laws_FnExactOpenFrame.j0 k l0 a1 t401 t402 t403 t406 t409 t410 t411 true)) = some r := H
  have A15 := Aside0.mk A150
  clear A150
  by_cases c16 : t414 = true
  case neg =>
   replace c16 := Bool.eq_false_iff.mpr c16
   subst c16
   have H1 : (laws_FnExactOpenFrame.j0 k l0 a1 t401 t402 t403 t406 t409 t410 t411 true) = some r := by rw [if_neg (show ¬ (false = true) by decide)] at H; exact H
   clear H
   have H := H1
   clear H1
   have H' := Aside0.mk H
   clear H
   obtain ⟨Ao22, co22, eo22⟩ := Kd.R_slice HO413.out
   subst eo22
   obtain ⟨Ao23, co23, eo23⟩ := Kd.R_slice HO405.out
   subst eo23
   go_wp2_with (first | ((with_reducible refine gate_callee (f := 28) rfl ?_); refine goesL_ (some 40) rfl rfl Try.func28 (by kernel_rfl) rfl #[.slice Ao22 t409.length co22, .slice Ao23 t401.length co23] rfl (by (try simp only [List.map_toArray, List.map_cons, List.map_nil]); first | done | rfl | (simp only [List.length_drop, List.length_take]; rfl)) ?_; (with_reducible refine (laws_eqIntS.calls k _ _ t409 _ _ t401 false _ ?side1 ?side2 ?side3 ?side4 A15.out).mono ?_); (case side1 => repeat (first | exact (Kd.R_reads' HO413.out).2.2 | (with_reducible first | refine zCa ?_ _ | refine zCn ?_ _ | refine zCd ?_))); (case side2 => exact (Kd.R_reads' HO413.out).2.1); (case side3 => repeat (first | exact (Kd.R_reads' HO405.out).2.2 | (with_reducible first | refine zCa ?_ _ | refine zCn ?_ _ | refine zCd ?_))); (case side4 => exact (Kd.R_reads' HO405.out).2.1); rintro e w' ⟨rfl, ⟨nd, rfl⟩⟩; refine ⟨_, rfl, ?_⟩))
   go_meet
   case rel => exact ⟨_, (true), (by first | rfl | (simp; done) | (simp [*]; done)), H', ⟨by first | omega | exact Nat.le_refl _⟩, ⟨by (with_reducible repeat (first | apply zRa | apply zRn | apply zRd)); first | exact Kd.R_mono HO405.out (fun _ hk => hk.2) | (subst_vars; exact Kd.R_mono HO405.out (fun _ hk => hk.2))⟩, ⟨by (with_reducible repeat (first | apply zRa | apply zRn | apply zRd)); first | exact Kd.R_mono HO408.out (fun _ hk => trivial) | (subst_vars; exact Kd.R_mono HO408.out (fun _ hk => trivial))⟩, ⟨by (with_reducible repeat (first | apply zRa | apply zRn | apply zRd)); first | exact Kd.R_mono HO413.out (fun _ hk => hk.2) | (subst_vars; exact Kd.R_mono HO413.out (fun _ hk => hk.2))⟩, ⟨by repeat (first | (with_reducible first | exact HB.out | apply zBa | apply zBn | apply zBd) | exact HB.out)⟩⟩
  subst c16
  have H1 : (if t410 = t402 then (laws_FnExactOpenFrame.j0 k l0 a1 t401 t402 t403 t406 t409 t410 t411 (t411 != t403)) else (laws_FnExactOpenFrame.j0 k l0 a1 t401 t402 t403 t406 t409 t410 t411 true)) = some r := by rw [if_pos rfl] at H; exact H
  clear H
  have H := H1
  clear H1
  by_cases c17 : t410 = t402
  case neg =>
   rw [if_neg c17] at H
   have c17b0 : (t410 == t402) = false := beq_eq_false_iff_ne.mpr c17
   have c17b1 : (t410 != t402) = true := bne_iff_ne.mpr c17
   (first | rw [c17b0] | (simp only [i64_w, i32_w]; rw [c17b0]) | skip)
   have H' := Aside0.mk H
   clear H
   obtain ⟨Ao20, co20, eo20⟩ := Kd.R_slice HO413.out
   subst eo20
   obtain ⟨Ao21, co21, eo21⟩ := Kd.R_slice HO405.out
   subst eo21
   go_wp2_with (first | ((with_reducible refine gate_callee (f := 28) rfl ?_); refine goesL_ (some 40) rfl rfl Try.func28 (by kernel_rfl) rfl #[.slice Ao20 t409.length co20, .slice Ao21 t401.length co21] rfl (by (try simp only [List.map_toArray, List.map_cons, List.map_nil]); first | done | rfl | (simp only [List.length_drop, List.length_take]; rfl)) ?_; (with_reducible refine (laws_eqIntS.calls k _ _ t409 _ _ t401 true _ ?side1 ?side2 ?side3 ?side4 A15.out).mono ?_); (case side1 => repeat (first | exact (Kd.R_reads' HO413.out).2.2 | (with_reducible first | refine zCa ?_ _ | refine zCn ?_ _ | refine zCd ?_))); (case side2 => exact (Kd.R_reads' HO413.out).2.1); (case side3 => repeat (first | exact (Kd.R_reads' HO405.out).2.2 | (with_reducible first | refine zCa ?_ _ | refine zCn ?_ _ | refine zCd ?_))); (case side4 => exact (Kd.R_reads' HO405.out).2.1); rintro e w' ⟨rfl, ⟨nd, rfl⟩⟩; refine ⟨_, rfl, ?_⟩))
   go_meet
   case rel => exact ⟨_, (true), (by first | rfl | (simp; done) | (simp [*]; done)), H', ⟨by first | omega | exact Nat.le_refl _⟩, ⟨by (with_reducible repeat (first | apply zRa | apply zRn | apply zRd)); first | exact Kd.R_mono HO405.out (fun _ hk => hk.2) | (subst_vars; exact Kd.R_mono HO405.out (fun _ hk => hk.2))⟩, ⟨by (with_reducible repeat (first | apply zRa | apply zRn | apply zRd)); first | exact Kd.R_mono HO408.out (fun _ hk => trivial) | (subst_vars; exact Kd.R_mono HO408.out (fun _ hk => trivial))⟩, ⟨by (with_reducible repeat (first | apply zRa | apply zRn | apply zRd)); first | exact Kd.R_mono HO413.out (fun _ hk => hk.2) | (subst_vars; exact Kd.R_mono HO413.out (fun _ hk => hk.2))⟩, ⟨by repeat (first | (with_reducible first | exact HB.out | apply zBa | apply zBn | apply zBd) | exact HB.out)⟩⟩
  rw [if_pos c17] at H
  have c17b0 : (t410 == t402) = true := beq_iff_eq.mpr c17
  have c17b1 : (t410 != t402) = false := bne_eq_false_iff_eq.mpr c17
  clear c17
  (first | rw [c17b0] | (simp only [i64_w, i32_w]; rw [c17b0]) | skip)
  have H' := Aside0.mk H
  clear H
  obtain ⟨Ao18, co18, eo18⟩ := Kd.R_slice HO413.out
  subst eo18
  obtain ⟨Ao19, co19, eo19⟩ := Kd.R_slice HO405.out
  subst eo19
  go_wp2_with (first | ((with_reducible refine gate_callee (f := 28) rfl ?_); refine goesL_ (some 40) rfl rfl Try.func28 (by kernel_rfl) rfl #[.slice Ao18 t409.length co18, .slice Ao19 t401.length co19] rfl (by (try simp only [List.map_toArray, List.map_cons, List.map_nil]); first | done | rfl | (simp only [List.length_drop, List.length_take]; rfl)) ?_; (with_reducible refine (laws_eqIntS.calls k _ _ t409 _ _ t401 true _ ?side1 ?side2 ?side3 ?side4 A15.out).mono ?_); (case side1 => repeat (first | exact (Kd.R_reads' HO413.out).2.2 | (with_reducible first | refine zCa ?_ _ | refine zCn ?_ _ | refine zCd ?_))); (case side2 => exact (Kd.R_reads' HO413.out).2.1); (case side3 => repeat (first | exact (Kd.R_reads' HO405.out).2.2 | (with_reducible first | refine zCa ?_ _ | refine zCn ?_ _ | refine zCd ?_))); (case side4 => exact (Kd.R_reads' HO405.out).2.1); rintro e w' ⟨rfl, ⟨nd, rfl⟩⟩; refine ⟨_, rfl, ?_⟩))
  go_meet
  case rel => exact ⟨_, ((t411 != t403)), (by first | rfl | (simp; done) | (simp [*]; done)), H', ⟨by first | omega | exact Nat.le_refl _⟩, ⟨by (with_reducible repeat (first | apply zRa | apply zRn | apply zRd)); first | exact Kd.R_mono HO405.out (fun _ hk => hk.2) | (subst_vars; exact Kd.R_mono HO405.out (fun _ hk => hk.2))⟩, ⟨by (with_reducible repeat (first | apply zRa | apply zRn | apply zRd)); first | exact Kd.R_mono HO408.out (fun _ hk => trivial) | (subst_vars; exact Kd.R_mono HO408.out (fun _ hk => trivial))⟩, ⟨by (with_reducible repeat (first | apply zRa | apply zRn | apply zRd)); first | exact Kd.R_mono HO413.out (fun _ hk => hk.2) | (subst_vars; exact Kd.R_mono HO413.out (fun _ hk => hk.2))⟩, ⟨by repeat (first | (with_reducible first | exact HB.out | apply zBa | apply zBn | apply zBd) | exact HB.out)⟩⟩
 case rest =>
  clear HC8
  try clear c1
  try clear c2
  try clear p2
  try clear c3
  try clear c3b0
  try clear c3b1
  try clear c4
  try clear c10
  try clear c16
  try clear c17
  try clear c17b0
  try clear c17b1
  obtain ⟨kq, x51_7, rfl, HA, HJ7, HO_5, HO_8, HO_9, HB⟩ := hcut
  cases kq with
  | zero => exact absurd HA.out (by simp [laws_FnExactOpenFrame.j0])
  | succ kj7 =>
   have H := HA.out
   clear HA
   simp only [laws_FnExactOpenFrame.j0] at H
   by_cases c24 : x51_7 = true
   case pos =>
    subst c24
    have H1 : (some false) = some r := by rw [if_pos rfl] at H; exact H
    clear H
    have H := H1
    clear H1
    exact absurd (Option.some.inj H) (by rw [hr_]; decide)
   replace c24 := Bool.eq_false_iff.mpr c24
   subst c24
   have H1 : ((laws_toByteS.f kj7 l0).bind fun t415 => ((laws_eqByteS.f kj7 t406 t415).bind fun t418 => (if t418 = true then ((laws_markByteS.f kj7 t406 1).bind fun bt419 => (if bt419.1 < 0 then (laws_FnExactOpenFrame.j1 kj7 l0 a1 t401 t402 t403 t409 true) else ((laws_eqIntS.f kj7 t409 t401).bind fun t421 => (if t421 = true then (if t410 = t402 then (laws_FnExactOpenFrame.j1 kj7 l0 a1 t401 t402 t403 t409 (t411 != t403)) else (laws_FnExactOpenFrame.j1 kj7 l0 a1 t401 t402 t403 t409 true)) else (laws_FnExactOpenFrame.j1 kj7 l0 a1 t401 t402 t403 t409 true))))) else (some false)))) = some r := by rw [if_neg (show ¬ (false = true) by decide)] at H; exact H
   clear H
   have H := H1
   clear H1
   replace H := Option.bind_eq_some_iff.mp H
   obtain ⟨t415, A250, H⟩ := H
   replace H : ((laws_eqByteS.f kj7 t406 t415).bind fun t418 => (if t418 = true then ((laws_markByteS.f kj7 t406 1).bind fun bt419 => (if bt419.1 < 0 then (laws_FnExactOpenFrame.j1 kj7 l0 a1 t401 t402 t403 t409 true) else ((laws_eqIntS.f kj7 t409 t401).bind fun t421 => (if t421 = true then (if t410 = t402 then (laws_FnExactOpenFrame.j1 kj7 l0 a1 t401 t402 t403 t409 (t411 != t403)) else (laws_FnExactOpenFrame.j1 kj7 l0 a1 t401 t402 t403 t409 true)) else (laws_FnExactOpenFrame.j1 kj7 l0 a1 t401 t402 t403 t409 true))))) else (some false))) = some r := H
   have A25 := Aside0.mk A250
   clear A250
   replace H := Option.bind_eq_some_iff.mp H
   obtain ⟨t418, A260, H⟩ := H
   replace H : (if t418 = true then ((laws_markByteS.f kj7 t406 1).bind fun bt419 => (if bt419.1 < 0 then (laws_FnExactOpenFrame.j1 kj7 l0 a1 t401 t402 t403 t409 true) else ((laws_eqIntS.f kj7 t409 t401).bind fun t421 => (if t421 = true then (if t410 = t402 then (laws_FnExactOpenFrame.j1 kj7 l0 a1 t401 t402 t403 t409 (t411 != t403)) else (laws_FnExactOpenFrame.j1 kj7 l0 a1 t401 t402 t403 t409 true)) else (laws_FnExactOpenFrame.j1 kj7 l0 a1 t401 t402 t403 t409 true))))) else (some false)) = some r := H
   have A26 := Aside0.mk A260
   clear A260
   by_cases c27 : t418 = true
   case neg =>
    replace c27 := Bool.eq_false_iff.mpr c27
    subst c27
    have H1 : (some false) = some r := by rw [if_neg (show ¬ (false = true) by decide)] at H; exact H
    clear H
    have H := H1
    clear H1
    exact absurd (Option.some.inj H) (by rw [hr_]; decide)
   subst c27
   have H1 : ((laws_markByteS.f kj7 t406 1).bind fun bt419 => (if bt419.1 < 0 then (laws_FnExactOpenFrame.j1 kj7 l0 a1 t401 t402 t403 t409 true) else ((laws_eqIntS.f kj7 t409 t401).bind fun t421 => (if t421 = true then (if t410 = t402 then (laws_FnExactOpenFrame.j1 kj7 l0 a1 t401 t402 t403 t409 (t411 != t403)) else (laws_FnExactOpenFrame.j1 kj7 l0 a1 t401 t402 t403 t409 true)) else (laws_FnExactOpenFrame.j1 kj7 l0 a1 t401 t402 t403 t409 true))))) = some r := by rw [if_pos rfl] at H; exact H
   clear H
   have H := H1
   clear H1
   replace H := Option.bind_eq_some_iff.mp H
   obtain ⟨⟨t419, t420⟩, A280, H⟩ := H
   replace H : (if t419 < 0 then (laws_FnExactOpenFrame.j1 kj7 l0 a1 t401 t402 t403 t409 true) else ((laws_eqIntS.f kj7 t409 t401).bind fun t421 => (if t421 = true then (if t410 = t402 then (laws_FnExactOpenFrame.j1 kj7 l0 a1 t401 t402 t403 t409 (t411 != t403)) else (laws_FnExactOpenFrame.j1 kj7 l0 a1 t401 t402 t403 t409 true)) else (laws_FnExactOpenFrame.j1 kj7 l0 a1 t401 t402 t403 t409 true)))) = some r := H
   have A28 := Aside0.mk A280
   clear A280
   have HC29 := Aside0.mk H
   clear H
   go_upto_region 12 with (first | ((with_reducible refine gate_callee (f := 44) rfl ?_); refine goesL_ (some 54) rfl rfl Try.func44 (by kernel_rfl) rfl #[.slice A0 l0.length c0] rfl (by (try simp only [List.map_toArray, List.map_cons, List.map_nil]); first | done | rfl | (simp only [List.length_drop, List.length_take]; rfl)) ?_; (with_reducible refine (laws_toByteS.calls kj7 _ _ l0 t415 _ ?side1 ?side2 A25.out).mono ?_); (case side1 => repeat (first | exact (Kd.C_below HR0.out HB.out) | (with_reducible first | refine zCa ?_ _ | refine zCn ?_ _ | refine zCd ?_))); (case side2 => exact HC0.out); rintro e w30 ⟨v416, rfl, ho0, hb⟩; refine ⟨_, rfl, ?_⟩; have n0_ := Aside0.mk (Kd.R_below (by (with_reducible repeat (first | apply zRa | apply zRn | apply zRd)); first | exact HO_5.out | (subst_vars; exact HO_5.out)) hb); have n1_ := Aside0.mk (Kd.R_elder' (by (with_reducible repeat (first | apply zRa | apply zRn | apply zRd)); first | exact HO_8.out | (subst_vars; exact HO_8.out)) (Kd.R_base ho0) hb); have n2_ := Aside0.mk (Kd.R_below (by (with_reducible repeat (first | apply zRa | apply zRn | apply zRd)); first | exact HO_9.out | (subst_vars; exact HO_9.out)) hb); have n3_ := Aside0.mk (Kd.R_lower (Kd.R_new' ho0 (Kd.R_lt (by (with_reducible repeat (first | apply zRa | apply zRn | apply zRd)); first | exact HO_8.out | (subst_vars; exact HO_8.out)))) (below_size (by repeat (first | (with_reducible first | exact HB.out | apply zBa | apply zBn | apply zBd) | exact HB.out)))); have n4_ := Aside0.mk (below_step (by repeat (first | (with_reducible first | exact HB.out | apply zBa | apply zBn | apply zBd) | exact HB.out)) hb); clear HO_5; clear HO_8; clear HO_9; clear HB; have HO_5 := n0_; have HO_8 := n1_; have HO_9 := n2_; have HO417 := n3_; have HB := n4_; clear n0_ n1_ n2_ n3_ n4_; (try clear hb); (try clear hb2); (try clear hk); (try clear hi); (try clear ho0); obtain ⟨Ao31, co31, eo31⟩ := Kd.R_slice HO417.out; subst eo31) | ((with_reducible refine gate_callee (f := 36) rfl ?_); refine goesL_ (some 55) rfl rfl Try.func36 (by kernel_rfl) rfl #[.slice Ao13 t406.length co13, .slice Ao31 t415.length co31] rfl (by (try simp only [List.map_toArray, List.map_cons, List.map_nil]); first | done | rfl | (simp only [List.length_drop, List.length_take]; rfl)) ?_; (with_reducible refine (laws_eqByteS.calls kj7 _ _ t406 _ _ t415 true _ ?side1 ?side2 ?side3 ?side4 A26.out).mono ?_); (case side1 => repeat (first | exact (Kd.R_reads' HO_8.out).2.2 | (with_reducible first | refine zCa ?_ _ | refine zCn ?_ _ | refine zCd ?_))); (case side2 => exact (Kd.R_reads' HO_8.out).2.1); (case side3 => repeat (first | exact (Kd.R_reads' HO417.out).2.2 | (with_reducible first | refine zCa ?_ _ | refine zCn ?_ _ | refine zCd ?_))); (case side4 => exact (Kd.R_reads' HO417.out).2.1); rintro e w' ⟨rfl, ⟨nd, rfl⟩⟩; refine ⟨_, rfl, ?_⟩) | ((with_reducible refine gate_callee (f := 37) rfl ?_); refine goesL_ (some 59) rfl rfl Try.func37 (by kernel_rfl) rfl #[.slice Ao13 t406.length co13, .int .i64 1] rfl (by (try simp only [List.map_toArray, List.map_cons, List.map_nil]); first | done | rfl | (simp only [List.length_drop, List.length_take]; rfl)) ?_; (with_reducible refine (laws_markByteS.calls kj7 (fun k_ => some k_ = (.slice Ao13 t406.length co13 : Value).ownBlock) (.slice Ao13 t406.length co13) t406 1 t419 t420 w _ ?side1 ?side2 A28.out).mono ?_); (case side1 => repeat (first | (with_reducible first | exact HB.out | apply zBa | apply zBn | apply zBd) | exact HB.out)); (case side2 => exact Kd.R_tight rfl HO_8.out); rintro e w32 ⟨rfl, hy0, hb, hkp⟩; refine ⟨_, rfl, ?_⟩; have n0_ := Aside0.mk (Kd.R_mono (ok' := fun k_ => some k_ ≠ (v412 : Value).ownBlock) (Kd.R_keptB ((Kd.R_apart' HO_5.out (Kd.R_typed HO_8.out) (by decide))) hkp (fun k_ hk_ hs_ => (hk_.2) hs_)) (fun k_ hk_ => hk_.1.1)); have n1_ := Aside0.mk (Kd.R_reok rfl hy0 (fun k_ e_ => HO_8.out.1 k_ e_)); have n2_ := Aside0.mk (Kd.R_mono (ok' := fun k_ => some k_ ≠ (v404 : Value).ownBlock) (Kd.R_keptB ((Kd.R_apart' HO_9.out (Kd.R_typed HO_8.out) (by decide))) hkp (fun k_ hk_ hs_ => (hk_.2) hs_)) (fun k_ hk_ => hk_.1.1)); have n3_ := Aside0.mk (Kd.R_mono (ok' := fun k_ => some k_ ≠ (.slice Ao13 t406.length co13 : Value).ownBlock) (Kd.R_keptB (HO417.out) hkp (fun k_ hk_ hs_ => (hk_.2) hs_)) (fun k_ hk_ => hk_.1.2)); have n4_ := Aside0.mk (hb); clear HO_5; clear HO_8; clear HO_9; clear HO417; clear HB; have HO_5 := n0_; have HO_8 := n1_; have HO_9 := n2_; have HO417 := n3_; have HB := n4_; clear n0_ n1_ n2_ n3_ n4_; (try clear hb); (try clear hkp); (try clear hy0)))
   (try simp only [Act.put, List.setIfInBounds_toArray, List.set_cons_zero, List.set_cons_succ])
   go_cut [77] (fun v77 wc => ∃ (kq : Nat) (x77_28 : Bool), v77 = .bool x77_28 ∧ Aside0 (laws_FnExactOpenFrame.j1 kq l0 a1 t401 t402 t403 t409 x77_28 = some r) ∧ Aside0 (kq ≤ kj7) ∧ Aside0 (Kd.R (Kd.int .i64) 3 wc w.heap.size (fun k_ => some k_ ≠ (v412 : Value).ownBlock) v404 t401) ∧ Aside0 (Kd.R (Kd.int .i64) 3 wc w.heap.size (fun k_ => some k_ ≠ (v404 : Value).ownBlock) v412 t409) ∧ Aside0 (Below w.heap.size w wc))
   case first =>
    have H := HC29.out
    clear HC29
    by_cases c33 : t419 < 0
    case pos =>
     rw [if_pos c33] at H
     have c33b0 : decide (t419 < 0) = true := zE c33
     clear c33
     (first | rw [c33b0] | (simp only [i64_w, i32_w]; rw [c33b0]) | skip)
     have H' := Aside0.mk H
     clear H
     go_wp2
     go_meet
     case rel => exact ⟨_, (true), (by first | rfl | (simp; done) | (simp [*]; done)), H', ⟨by have := HJ7.out; first | omega | exact Nat.le_refl _⟩, ⟨by (with_reducible repeat (first | apply zRa | apply zRn | apply zRd)); first | exact HO_5.out | (subst_vars; exact HO_5.out)⟩, ⟨by (with_reducible repeat (first | apply zRa | apply zRn | apply zRd)); first | exact HO_9.out | (subst_vars; exact HO_9.out)⟩, ⟨by repeat (first | (with_reducible first | exact HB.out | apply zBa | apply zBn | apply zBd) | exact HB.out)⟩⟩
    rw [if_neg c33] at H
    have c33b0 : decide (t419 < 0) = false := decide_eq_false c33
    clear c33
    (first | rw [c33b0] | (simp only [i64_w, i32_w]; rw [c33b0]) | skip)
    replace H := Option.bind_eq_some_iff.mp H
    obtain ⟨t421, A340, H⟩ := H
    replace H : (if t421 = true then (if t410 = t402 then (laws_FnExactOpenFrame.j1 kj7 l0 a1 t401 t402 t403 t409 (t411 != t403)) else (laws_FnExactOpenFrame.j1 kj7 l0 a1 t401 t402 t403 t409 true)) else (laws_FnExactOpenFrame.j1 kj7 l0 a1 t401 t402 t403 t409 true)) = some r := H
    have A34 := Aside0.mk A340
    clear A340
    by_cases c35 : t421 = true
    case neg =>
     replace c35 := Bool.eq_false_iff.mpr c35
     subst c35
     have H1 : (laws_FnExactOpenFrame.j1 kj7 l0 a1 t401 t402 t403 t409 true) = some r := by rw [if_neg (show ¬ (false = true) by decide)] at H; exact H
     clear H
     have H := H1
     clear H1
     have H' := Aside0.mk H
     clear H
     obtain ⟨Ao41, co41, eo41⟩ := Kd.R_slice HO_9.out
     subst eo41
     obtain ⟨Ao42, co42, eo42⟩ := Kd.R_slice HO_5.out
     subst eo42
     go_wp2_with (first | (go_at_call 28; (with_reducible refine (laws_eqIntS.calls kj7 _ _ t409 _ _ t401 false _ ?side1 ?side2 ?side3 ?side4 A34.out).mono ?_); (case side1 => repeat (first | exact (Kd.R_reads' HO_9.out).2.2 | (with_reducible first | refine zCa ?_ _ | refine zCn ?_ _ | refine zCd ?_))); (case side2 => exact (Kd.R_reads' HO_9.out).2.1); (case side3 => repeat (first | exact (Kd.R_reads' HO_5.out).2.2 | (with_reducible first | refine zCa ?_ _ | refine zCn ?_ _ | refine zCd ?_))); (case side4 => exact (Kd.R_reads' HO_5.out).2.1); rintro e w' ⟨rfl, ⟨nd, rfl⟩⟩))
     go_meet
     case rel => exact ⟨_, (true), (by first | rfl | (simp; done) | (simp [*]; done)), H', ⟨by have := HJ7.out; first | omega | exact Nat.le_refl _⟩, ⟨by (with_reducible repeat (first | apply zRa | apply zRn | apply zRd)); first | exact HO_5.out | (subst_vars; exact HO_5.out)⟩, ⟨by (with_reducible repeat (first | apply zRa | apply zRn | apply zRd)); first | exact HO_9.out | (subst_vars; exact HO_9.out)⟩, ⟨by repeat (first | (with_reducible first | exact HB.out | apply zBa | apply zBn | apply zBd) | exact HB.out)⟩⟩
    subst c35
    have H1 : (if t410 = t402 then (laws_FnExactOpenFrame.j1 kj7 l0 a1 t401 t402 t403 t409 (t411 != t403)) else (laws_FnExactOpenFrame.j1 kj7 l0 a1 t401 t402 t403 t409 true)) = some r := by rw [if_pos rfl] at H; exact H
    clear H
    have H := H1
    clear H1
    by_cases c36 : t410 = t402
    case neg =>
     rw [if_neg c36] at H
     have c36b0 : (t410 == t402) = false := beq_eq_false_iff_ne.mpr c36
     have c36b1 : (t410 != t402) = true := bne_iff_ne.mpr c36
     have H' := Aside0.mk H
     clear H
     obtain ⟨Ao39, co39, eo39⟩ := Kd.R_slice HO_9.out
     subst eo39
     obtain ⟨Ao40, co40, eo40⟩ := Kd.R_slice HO_5.out
     subst eo40
     go_wp2_with (first | (go_at_call 28; (with_reducible refine (laws_eqIntS.calls kj7 _ _ t409 _ _ t401 true _ ?side1 ?side2 ?side3 ?side4 A34.out).mono ?_); (case side1 => repeat (first | exact (Kd.R_reads' HO_9.out).2.2 | (with_reducible first | refine zCa ?_ _ | refine zCn ?_ _ | refine zCd ?_))); (case side2 => exact (Kd.R_reads' HO_9.out).2.1); (case side3 => repeat (first | exact (Kd.R_reads' HO_5.out).2.2 | (with_reducible first | refine zCa ?_ _ | refine zCn ?_ _ | refine zCd ?_))); (case side4 => exact (Kd.R_reads' HO_5.out).2.1); rintro e w' ⟨rfl, ⟨nd, rfl⟩⟩))
     go_meet
     case rel => exact ⟨_, (true), (by first | rfl | (simp; done) | (simp [*]; done)), H', ⟨by have := HJ7.out; first | omega | exact Nat.le_refl _⟩, ⟨by (with_reducible repeat (first | apply zRa | apply zRn | apply zRd)); first | exact HO_5.out | (subst_vars; exact HO_5.out)⟩, ⟨by (with_reducible repeat (first | apply zRa | apply zRn | apply zRd)); first | exact HO_9.out | (subst_vars; exact HO_9.out)⟩, ⟨by repeat (first | (with_reducible first | exact HB.out | apply zBa | apply zBn | apply zBd) | exact HB.out)⟩⟩
    rw [if_pos c36] at H
    have c36b0 : (t410 == t402) = true := beq_iff_eq.mpr c36
    have c36b1 : (t410 != t402) = false := bne_eq_false_iff_eq.mpr c36
    clear c36
    have H' := Aside0.mk H
    clear H
    obtain ⟨Ao37, co37, eo37⟩ := Kd.R_slice HO_9.out
    subst eo37
    obtain ⟨Ao38, co38, eo38⟩ := Kd.R_slice HO_5.out
    subst eo38
    go_wp2_with (first | (go_at_call 28; (with_reducible refine (laws_eqIntS.calls kj7 _ _ t409 _ _ t401 true _ ?side1 ?side2 ?side3 ?side4 A34.out).mono ?_); (case side1 => repeat (first | exact (Kd.R_reads' HO_9.out).2.2 | (with_reducible first | refine zCa ?_ _ | refine zCn ?_ _ | refine zCd ?_))); (case side2 => exact (Kd.R_reads' HO_9.out).2.1); (case side3 => repeat (first | exact (Kd.R_reads' HO_5.out).2.2 | (with_reducible first | refine zCa ?_ _ | refine zCn ?_ _ | refine zCd ?_))); (case side4 => exact (Kd.R_reads' HO_5.out).2.1); rintro e w' ⟨rfl, ⟨nd, rfl⟩⟩))
    go_meet
    case rel => exact ⟨_, ((t411 != t403)), (by first | rfl | (simp; done) | (simp [*]; done)), H', ⟨by have := HJ7.out; first | omega | exact Nat.le_refl _⟩, ⟨by (with_reducible repeat (first | apply zRa | apply zRn | apply zRd)); first | exact HO_5.out | (subst_vars; exact HO_5.out)⟩, ⟨by (with_reducible repeat (first | apply zRa | apply zRn | apply zRd)); first | exact HO_9.out | (subst_vars; exact HO_9.out)⟩, ⟨by repeat (first | (with_reducible first | exact HB.out | apply zBa | apply zBn | apply zBd) | exact HB.out)⟩⟩
   case rest =>
    clear HC29
    try clear c1
    try clear c2
    try clear p2
    try clear c3
    try clear c3b0
    try clear c3b1
    try clear c4
    try clear c10
    try clear c16
    try clear c17
    try clear c17b0
    try clear c17b1
    try clear c24
    try clear c27
    try clear c28
    try clear c33
    try clear c33b0
    try clear c35
    try clear c36
    try clear c36b0
    try clear c36b1
    try clear c37
    try clear c42
    try clear p2
    obtain ⟨kq, x77_28, rfl, HA, HJ28, HO_5, HO_9, HB⟩ := hcut
    cases kq with
    | zero => exact absurd HA.out (by simp [laws_FnExactOpenFrame.j1])
    | succ kj28 =>
     have H := HA.out
     clear HA
     simp only [laws_FnExactOpenFrame.j1] at H
     by_cases c43 : x77_28 = true
     case pos =>
      subst c43
      have H1 : (some false) = some r := by rw [if_pos rfl] at H; exact H
      clear H
      have H := H1
      clear H1
      exact absurd (Option.some.inj H) (by rw [hr_]; decide)
     replace c43 := Bool.eq_false_iff.mpr c43
     subst c43
     have H1 : ((laws_markIntS.f kj28 t409 1).bind fun bt422 => ((laws_heldIntS.f kj28 bt422.2 1).bind fun t424 => (if t424 < 0 then (some false) else (if t424 = bt422.1 then ((laws_toByteS.f kj28 l0).bind fun t425 => ((impl_OpenFrame.f kj28 t425 a1).bind fun bt428 => ((laws_eqIntS.f kj28 bt428.1 t401).bind fun t433 => (if t433 = true then (if bt428.2.1 = t402 then (laws_FnExactOpenFrame.j2 kj28 bt422.2 bt422.1 (bt428.2.2 != t403)) else (laws_FnExactOpenFrame.j2 kj28 bt422.2 bt422.1 true)) else (laws_FnExactOpenFrame.j2 kj28 bt422.2 bt422.1 true))))) else (some false))))) = some r := by rw [if_neg (show ¬ (false = true) by decide)] at H; exact H
     clear H
     have H := H1
     clear H1
     replace H := Option.bind_eq_some_iff.mp H
     obtain ⟨⟨t422, t423⟩, A440, H⟩ := H
     replace H : ((laws_heldIntS.f kj28 t423 1).bind fun t424 => (if t424 < 0 then (some false) else (if t424 = t422 then ((laws_toByteS.f kj28 l0).bind fun t425 => ((impl_OpenFrame.f kj28 t425 a1).bind fun bt428 => ((laws_eqIntS.f kj28 bt428.1 t401).bind fun t433 => (if t433 = true then (if bt428.2.1 = t402 then (laws_FnExactOpenFrame.j2 kj28 t423 t422 (bt428.2.2 != t403)) else (laws_FnExactOpenFrame.j2 kj28 t423 t422 true)) else (laws_FnExactOpenFrame.j2 kj28 t423 t422 true))))) else (some false)))) = some r := H
     have A44 := Aside0.mk A440
     clear A440
     replace H := Option.bind_eq_some_iff.mp H
     obtain ⟨t424, A450, H⟩ := H
     replace H : (if t424 < 0 then (some false) else (if t424 = t422 then ((laws_toByteS.f kj28 l0).bind fun t425 => ((impl_OpenFrame.f kj28 t425 a1).bind fun bt428 => ((laws_eqIntS.f kj28 bt428.1 t401).bind fun t433 => (if t433 = true then (if bt428.2.1 = t402 then (laws_FnExactOpenFrame.j2 kj28 t423 t422 (bt428.2.2 != t403)) else (laws_FnExactOpenFrame.j2 kj28 t423 t422 true)) else (laws_FnExactOpenFrame.j2 kj28 t423 t422 true))))) else (some false))) = some r := H
     have A45 := Aside0.mk A450
     clear A450
     by_cases c46 : t424 < 0
     case pos =>
      rw [if_pos c46] at H
      have c46b0 : decide (t424 < 0) = true := zE c46
      clear c46
      exact absurd (Option.some.inj H) (by rw [hr_]; decide)
     rw [if_neg c46] at H
     have c46b0 : decide (t424 < 0) = false := decide_eq_false c46
     clear c46
     by_cases c47 : t424 = t422
     case neg =>
      rw [if_neg c47] at H
      have c47b0 : (t424 == t422) = false := beq_eq_false_iff_ne.mpr c47
      have c47b1 : (t424 != t422) = true := bne_iff_ne.mpr c47
      exact absurd (Option.some.inj H) (by rw [hr_]; decide)
     rw [if_pos c47] at H
     have c47b0 : (t424 == t422) = true := beq_iff_eq.mpr c47
     have c47b1 : (t424 != t422) = false := bne_eq_false_iff_eq.mpr c47
     clear c47
     replace H := Option.bind_eq_some_iff.mp H
     obtain ⟨t425, A480, H⟩ := H
     replace H : ((impl_OpenFrame.f kj28 t425 a1).bind fun bt428 => ((laws_eqIntS.f kj28 bt428.1 t401).bind fun t433 => (if t433 = true then (if bt428.2.1 = t402 then (laws_FnExactOpenFrame.j2 kj28 t423 t422 (bt428.2.2 != t403)) else (laws_FnExactOpenFrame.j2 kj28 t423 t422 true)) else (laws_FnExactOpenFrame.j2 kj28 t423 t422 true)))) = some r := H
     have A48 := Aside0.mk A480
     clear A480
     replace H := Option.bind_eq_some_iff.mp H
     obtain ⟨⟨t428, t429, t430⟩, A490, H⟩ := H
     replace H : ((laws_eqIntS.f kj28 t428 t401).bind fun t433 => (if t433 = true then (if t429 = t402 then (laws_FnExactOpenFrame.j2 kj28 t423 t422 (t430 != t403)) else (laws_FnExactOpenFrame.j2 kj28 t423 t422 true)) else (laws_FnExactOpenFrame.j2 kj28 t423 t422 true))) = some r := H
     have A49 := Aside0.mk A490
     clear A490
     have HC50 := Aside0.mk H
     clear H
     obtain ⟨Ao51, co51, eo51⟩ := Kd.R_slice HO_9.out
     subst eo51
     go_upto_region 23 with (first | ((with_reducible refine gate_callee (f := 29) rfl ?_); refine goesL_ (some 80) rfl rfl Try.func29 (by kernel_rfl) rfl #[.slice Ao51 t409.length co51, .int .i64 1] rfl (by (try simp only [List.map_toArray, List.map_cons, List.map_nil]); first | done | rfl | (simp only [List.length_drop, List.length_take]; rfl)) ?_; (with_reducible refine (laws_markIntS.calls kj28 (fun k_ => some k_ = (.slice Ao51 t409.length co51 : Value).ownBlock) (.slice Ao51 t409.length co51) t409 1 t422 t423 w _ ?side1 ?side2 A44.out).mono ?_); (case side1 => repeat (first | (with_reducible first | exact HB.out | apply zBa | apply zBn | apply zBd) | exact HB.out)); (case side2 => exact Kd.R_tight rfl HO_9.out); rintro e w52 ⟨rfl, hy0, hb, hkp⟩; refine ⟨_, rfl, ?_⟩; have n0_ := Aside0.mk (Kd.R_mono (ok' := fun k_ => some k_ ≠ (.slice Ao51 t409.length co51 : Value).ownBlock) (Kd.R_keptB (HO_5.out) hkp (fun k_ hk_ hs_ => (hk_) hs_)) (fun k_ hk_ => hk_.1)); have n1_ := Aside0.mk (Kd.R_reok rfl hy0 (fun k_ e_ => HO_9.out.1 k_ e_)); have n2_ := Aside0.mk (hb); clear HO_5; clear HO_9; clear HB; have HO_5 := n0_; have HO_9 := n1_; have HB := n2_; clear n0_ n1_ n2_; (try clear hb); (try clear hkp); (try clear hy0)) | ((with_reducible refine gate_callee (f := 30) rfl ?_); refine goesL_ (some 83) rfl rfl Try.func30 (by kernel_rfl) rfl #[.slice Ao51 t423.length co51, .int .i64 1] rfl (by (try simp only [List.map_toArray, List.map_cons, List.map_nil]); first | done | (rw [show t423.length = t409.length from (Kd.R_reads' HO_9.out).1.symm] <;> rfl) | rfl | (simp only [List.length_drop, List.length_take]; rfl)) ?_; (with_reducible refine (laws_heldIntS.calls kj28 _ _ t423 1 t424 _ ?side1 ?side2 A45.out).mono ?_); (case side1 => repeat (first | exact (Kd.R_reads' HO_9.out).2.2 | (with_reducible first | refine zCa ?_ _ | refine zCn ?_ _ | refine zCd ?_))); (case side2 => rw [show t423.length = t409.length from (Kd.R_reads' HO_9.out).1.symm]; exact (Kd.R_reads' HO_9.out).2.1); rintro e w' ⟨rfl, ⟨nd, rfl⟩⟩; refine ⟨_, rfl, ?_⟩) | ((with_reducible refine gate_callee (f := 44) rfl ?_); refine goesL_ (some 91) rfl rfl Try.func44 (by kernel_rfl) rfl #[.slice A0 l0.length c0] rfl (by (try simp only [List.map_toArray, List.map_cons, List.map_nil]); first | done | rfl | (simp only [List.length_drop, List.length_take]; rfl)) ?_; (with_reducible refine (laws_toByteS.calls kj28 _ _ l0 t425 _ ?side1 ?side2 A48.out).mono ?_); (case side1 => repeat (first | exact (Kd.C_below HR0.out (by repeat (first | (with_reducible first | exact HB.out | apply zBa | apply zBn | apply zBd) | exact HB.out))) | (with_reducible first | refine zCa ?_ _ | refine zCn ?_ _ | refine zCd ?_))); (case side2 => exact HC0.out); rintro e w53 ⟨v426, rfl, ho0, hb⟩; refine ⟨_, rfl, ?_⟩; have n0_ := Aside0.mk (Kd.R_below (by (with_reducible repeat (first | apply zRa | apply zRn | apply zRd)); first | exact HO_5.out | (subst_vars; exact HO_5.out)) hb); have n1_ := Aside0.mk (Kd.R_below (by (with_reducible repeat (first | apply zRa | apply zRn | apply zRd)); first | exact HO_9.out | (subst_vars; exact HO_9.out)) hb); have n2_ := Aside0.mk (Kd.R_lower ho0 (below_size (by repeat (first | (with_reducible first | exact HB.out | apply zBa | apply zBn | apply zBd) | exact HB.out)))); have n3_ := Aside0.mk (below_step (by repeat (first | (with_reducible first | exact HB.out | apply zBa | apply zBn | apply zBd) | exact HB.out)) hb); clear HO_5; clear HO_9; clear HB; have HO_5 := n0_; have HO_9 := n1_; have HO427 := n2_; have HB := n3_; clear n0_ n1_ n2_ n3_; (try clear hb); (try clear hb2); (try clear hk); (try clear hi); (try clear ho0); obtain ⟨Ao54, co54, eo54⟩ := Kd.R_slice HO427.out; subst eo54) | ((with_reducible refine gate_callee (f := 42) rfl ?_); refine goesL_ (some 93) rfl rfl Try.func42 (by kernel_rfl) rfl #[.slice Ao54 t425.length co54, .int .i64 a1] rfl (by (try simp only [List.map_toArray, List.map_cons, List.map_nil]); first | done | rfl | (simp only [List.length_drop, List.length_take]; rfl)) ?_; (with_reducible refine (impl_OpenFrame.calls kj28 _ _ t425 a1 t428 t429 t430 _ ?side1 ?side2 A49.out).mono ?_); (case side1 => repeat (first | exact (Kd.R_reads' HO427.out).2.2 | (with_reducible first | refine zCa ?_ _ | refine zCn ?_ _ | refine zCd ?_))); (case side2 => exact (Kd.R_reads' HO427.out).2.1); rintro e w55 ⟨v431, rfl, ho0, hb⟩; refine ⟨_, rfl, ?_⟩; have n0_ := Aside0.mk (Kd.R_elder' (by (with_reducible repeat (first | apply zRa | apply zRn | apply zRd)); first | exact HO_5.out | (subst_vars; exact HO_5.out)) (Kd.R_base ho0) hb); have n1_ := Aside0.mk (Kd.R_elder' (by (with_reducible repeat (first | apply zRa | apply zRn | apply zRd)); first | exact HO_9.out | (subst_vars; exact HO_9.out)) (Kd.R_base ho0) hb); have n2_ := Aside0.mk (Kd.R_below (by (with_reducible repeat (first | apply zRa | apply zRn | apply zRd)); first | exact HO427.out | (subst_vars; exact HO427.out)) hb); have n3_ := Aside0.mk (Kd.R_lower (Kd.R_new' (Kd.R_new' ho0 (Kd.R_lt (by (with_reducible repeat (first | apply zRa | apply zRn | apply zRd)); first | exact HO_5.out | (subst_vars; exact HO_5.out)))) (Kd.R_lt (by (with_reducible repeat (first | apply zRa | apply zRn | apply zRd)); first | exact HO_9.out | (subst_vars; exact HO_9.out)))) (below_size (by repeat (first | (with_reducible first | exact HB.out | apply zBa | apply zBn | apply zBd) | exact HB.out)))); have n4_ := Aside0.mk (below_step (by repeat (first | (with_reducible first | exact HB.out | apply zBa | apply zBn | apply zBd) | exact HB.out)) hb); clear HO_5; clear HO_9; clear HO427; clear HB; have HO_5 := n0_; have HO_9 := n1_; have HO427 := n2_; have HO432 := n3_; have HB := n4_; clear n0_ n1_ n2_ n3_ n4_; (try clear hb); (try clear hb2); (try clear hk); (try clear hi); (try clear ho0)))
     (try simp only [Act.put, List.setIfInBounds_toArray, List.set_cons_zero, List.set_cons_succ])
     go_cut [110] (fun v110 wc => ∃ (kq : Nat) (x110_49 : Bool), v110 = .bool x110_49 ∧ Aside0 (laws_FnExactOpenFrame.j2 kq t423 t422 x110_49 = some r) ∧ Aside0 (kq ≤ kj28) ∧ Aside0 (Kd.R (Kd.int .i64) 3 wc w.heap.size (fun _ => True) (.slice Ao51 t409.length co51) t423) ∧ Aside0 (Below w.heap.size w wc))
     case first =>
      have H := HC50.out
      clear HC50
      replace H := Option.bind_eq_some_iff.mp H
      obtain ⟨t433, A560, H⟩ := H
      replace H : (if t433 = true then (if t429 = t402 then (laws_FnExactOpenFrame.j2 kj28 t423 t422 (t430 != t403)) else (laws_FnExactOpenFrame.j2 kj28 t423 t422 true)) else (laws_FnExactOpenFrame.j2 kj28 t423 t422 true)) = some r := H
      have A56 := Aside0.mk A560
      clear A560
      by_cases c57 : t433 = true
      case neg =>
       replace c57 := Bool.eq_false_iff.mpr c57
       subst c57
       have H1 : (laws_FnExactOpenFrame.j2 kj28 t423 t422 true) = some r := by rw [if_neg (show ¬ (false = true) by decide)] at H; exact H
       clear H
       have H := H1
       clear H1
       have H' := Aside0.mk H
       clear H
       obtain ⟨Ao63, co63, eo63⟩ := Kd.R_slice HO432.out
       subst eo63
       obtain ⟨Ao64, co64, eo64⟩ := Kd.R_slice HO_5.out
       subst eo64
       go_wp2_with (first | ((with_reducible refine gate_callee (f := 28) rfl ?_); refine goesL_ (some 99) rfl rfl Try.func28 (by kernel_rfl) rfl #[.slice Ao63 t428.length co63, .slice Ao64 t401.length co64] rfl (by (try simp only [List.map_toArray, List.map_cons, List.map_nil]); first | done | rfl | (simp only [List.length_drop, List.length_take]; rfl)) ?_; (with_reducible refine (laws_eqIntS.calls kj28 _ _ t428 _ _ t401 false _ ?side1 ?side2 ?side3 ?side4 A56.out).mono ?_); (case side1 => repeat (first | exact (Kd.R_reads' HO432.out).2.2 | (with_reducible first | refine zCa ?_ _ | refine zCn ?_ _ | refine zCd ?_))); (case side2 => exact (Kd.R_reads' HO432.out).2.1); (case side3 => repeat (first | exact (Kd.R_reads' HO_5.out).2.2 | (with_reducible first | refine zCa ?_ _ | refine zCn ?_ _ | refine zCd ?_))); (case side4 => exact (Kd.R_reads' HO_5.out).2.1); rintro e w' ⟨rfl, ⟨nd, rfl⟩⟩; refine ⟨_, rfl, ?_⟩))
       go_meet
       case rel => exact ⟨_, (true), (by first | rfl | (simp; done) | (simp [*]; done)), H', ⟨by have := HJ7.out; have := HJ28.out; first | omega | exact Nat.le_refl _⟩, ⟨by (with_reducible repeat (first | apply zRa | apply zRn | apply zRd)); first | exact Kd.R_mono HO_9.out (fun _ hk => trivial) | (subst_vars; exact Kd.R_mono HO_9.out (fun _ hk => trivial))⟩, ⟨by repeat (first | (with_reducible first | exact HB.out | apply zBa | apply zBn | apply zBd) | exact HB.out)⟩⟩
      subst c57
      have H1 : (if t429 = t402 then (laws_FnExactOpenFrame.j2 kj28 t423 t422 (t430 != t403)) else (laws_FnExactOpenFrame.j2 kj28 t423 t422 true)) = some r := by rw [if_pos rfl] at H; exact H
      clear H
      have H := H1
      clear H1
      by_cases c58 : t429 = t402
      case neg =>
       rw [if_neg c58] at H
       have c58b0 : (t429 == t402) = false := beq_eq_false_iff_ne.mpr c58
       have c58b1 : (t429 != t402) = true := bne_iff_ne.mpr c58
       (first | rw [c58b0] | (simp only [i64_w, i32_w]; rw [c58b0]) | skip)
       have H' := Aside0.mk H
       clear H
       obtain ⟨Ao61, co61, eo61⟩ := Kd.R_slice HO432.out
       subst eo61
       obtain ⟨Ao62, co62, eo62⟩ := Kd.R_slice HO_5.out
       subst eo62
       go_wp2_with (first | ((with_reducible refine gate_callee (f := 28) rfl ?_); refine goesL_ (some 99) rfl rfl Try.func28 (by kernel_rfl) rfl #[.slice Ao61 t428.length co61, .slice Ao62 t401.length co62] rfl (by (try simp only [List.map_toArray, List.map_cons, List.map_nil]); first | done | rfl | (simp only [List.length_drop, List.length_take]; rfl)) ?_; (with_reducible refine (laws_eqIntS.calls kj28 _ _ t428 _ _ t401 true _ ?side1 ?side2 ?side3 ?side4 A56.out).mono ?_); (case side1 => repeat (first | exact (Kd.R_reads' HO432.out).2.2 | (with_reducible first | refine zCa ?_ _ | refine zCn ?_ _ | refine zCd ?_))); (case side2 => exact (Kd.R_reads' HO432.out).2.1); (case side3 => repeat (first | exact (Kd.R_reads' HO_5.out).2.2 | (with_reducible first | refine zCa ?_ _ | refine zCn ?_ _ | refine zCd ?_))); (case side4 => exact (Kd.R_reads' HO_5.out).2.1); rintro e w' ⟨rfl, ⟨nd, rfl⟩⟩; refine ⟨_, rfl, ?_⟩))
       go_meet
       case rel => exact ⟨_, (true), (by first | rfl | (simp; done) | (simp [*]; done)), H', ⟨by have := HJ7.out; have := HJ28.out; first | omega | exact Nat.le_refl _⟩, ⟨by (with_reducible repeat (first | apply zRa | apply zRn | apply zRd)); first | exact Kd.R_mono HO_9.out (fun _ hk => trivial) | (subst_vars; exact Kd.R_mono HO_9.out (fun _ hk => trivial))⟩, ⟨by repeat (first | (with_reducible first | exact HB.out | apply zBa | apply zBn | apply zBd) | exact HB.out)⟩⟩
      rw [if_pos c58] at H
      have c58b0 : (t429 == t402) = true := beq_iff_eq.mpr c58
      have c58b1 : (t429 != t402) = false := bne_eq_false_iff_eq.mpr c58
      clear c58
      (first | rw [c58b0] | (simp only [i64_w, i32_w]; rw [c58b0]) | skip)
      have H' := Aside0.mk H
      clear H
      obtain ⟨Ao59, co59, eo59⟩ := Kd.R_slice HO432.out
      subst eo59
      obtain ⟨Ao60, co60, eo60⟩ := Kd.R_slice HO_5.out
      subst eo60
      go_wp2_with (first | ((with_reducible refine gate_callee (f := 28) rfl ?_); refine goesL_ (some 99) rfl rfl Try.func28 (by kernel_rfl) rfl #[.slice Ao59 t428.length co59, .slice Ao60 t401.length co60] rfl (by (try simp only [List.map_toArray, List.map_cons, List.map_nil]); first | done | rfl | (simp only [List.length_drop, List.length_take]; rfl)) ?_; (with_reducible refine (laws_eqIntS.calls kj28 _ _ t428 _ _ t401 true _ ?side1 ?side2 ?side3 ?side4 A56.out).mono ?_); (case side1 => repeat (first | exact (Kd.R_reads' HO432.out).2.2 | (with_reducible first | refine zCa ?_ _ | refine zCn ?_ _ | refine zCd ?_))); (case side2 => exact (Kd.R_reads' HO432.out).2.1); (case side3 => repeat (first | exact (Kd.R_reads' HO_5.out).2.2 | (with_reducible first | refine zCa ?_ _ | refine zCn ?_ _ | refine zCd ?_))); (case side4 => exact (Kd.R_reads' HO_5.out).2.1); rintro e w' ⟨rfl, ⟨nd, rfl⟩⟩; refine ⟨_, rfl, ?_⟩))
      go_meet
      case rel => exact ⟨_, ((t430 != t403)), (by first | rfl | (simp; done) | (simp [*]; done)), H', ⟨by have := HJ7.out; have := HJ28.out; first | omega | exact Nat.le_refl _⟩, ⟨by (with_reducible repeat (first | apply zRa | apply zRn | apply zRd)); first | exact Kd.R_mono HO_9.out (fun _ hk => trivial) | (subst_vars; exact Kd.R_mono HO_9.out (fun _ hk => trivial))⟩, ⟨by repeat (first | (with_reducible first | exact HB.out | apply zBa | apply zBn | apply zBd) | exact HB.out)⟩⟩
     case rest =>
      clear HC50
      try clear c1
      try clear c2
      try clear p2
      try clear c3
      try clear c3b0
      try clear c3b1
      try clear c4
      try clear c5
      try clear c10
      try clear c16
      try clear c17
      try clear c17b0
      try clear c17b1
      try clear c24
      try clear c27
      try clear c28
      try clear c29
      try clear c30
      try clear c33
      try clear c33b0
      try clear c35
      try clear c36
      try clear c36b0
      try clear c36b1
      try clear c37
      try clear c42
      try clear c43
      try clear c44
      try clear c46
      try clear c46b0
      try clear c47
      try clear c47b0
      try clear c47b1
      try clear c57
      try clear c58
      try clear c58b0
      try clear c58b1
      try clear p2
      obtain ⟨kq, x110_49, rfl, HA, HJ49, HO_9, HB⟩ := hcut
      have hl9_49 := (Kd.R_reads' HO_9.out).1
      rw [hl9_49] at HO_9
      (try simp only [hl9_49])
      cases kq with
      | zero => exact absurd HA.out (by simp [laws_FnExactOpenFrame.j2])
      | succ kj49 =>
       have H := HA.out
       clear HA
       simp only [laws_FnExactOpenFrame.j2] at H
       by_cases c65 : x110_49 = true
       case pos =>
        subst c65
        have H1 : (some false) = some r := by rw [if_pos rfl] at H; exact H
        clear H
        have H := H1
        clear H1
        exact absurd (Option.some.inj H) (by rw [hr_]; decide)
       replace c65 := Bool.eq_false_iff.mpr c65
       subst c65
       have H1 : ((laws_heldIntS.f kj49 t423 1).bind fun t434 => (if t434 < 0 then (some false) else (if t434 = t422 then (some true) else (some false)))) = some r := by rw [if_neg (show ¬ (false = true) by decide)] at H; exact H
       clear H
       have H := H1
       clear H1
       replace H := Option.bind_eq_some_iff.mp H
       obtain ⟨t434, A660, H⟩ := H
       replace H : (if t434 < 0 then (some false) else (if t434 = t422 then (some true) else (some false))) = some r := H
       have A66 := Aside0.mk A660
       clear A660
       by_cases c67 : t434 < 0
       case pos =>
        rw [if_pos c67] at H
        have c67b0 : decide (t434 < 0) = true := zE c67
        (try (have c67w_hl9_49 := c67b0; simp only [hl9_49] at c67w_hl9_49))
        clear c67
        exact absurd (Option.some.inj H) (by rw [hr_]; decide)
       rw [if_neg c67] at H
       have c67b0 : decide (t434 < 0) = false := decide_eq_false c67
       (try (have c67w_hl9_49 := c67b0; simp only [hl9_49] at c67w_hl9_49))
       clear c67
       by_cases c68 : t434 = t422
       case neg =>
        rw [if_neg c68] at H
        have c68b0 : (t434 == t422) = false := beq_eq_false_iff_ne.mpr c68
        have c68b1 : (t434 != t422) = true := bne_iff_ne.mpr c68
        (try (have c68w_hl9_49 := c68b0; simp only [hl9_49] at c68w_hl9_49))
        exact absurd (Option.some.inj H) (by rw [hr_]; decide)
       rw [if_pos c68] at H
       have c68b0 : (t434 == t422) = true := beq_iff_eq.mpr c68
       have c68b1 : (t434 != t422) = false := bne_eq_false_iff_eq.mpr c68
       (try (have c68w_hl9_49 := c68b0; simp only [hl9_49] at c68w_hl9_49))
       clear c68
       obtain rfl := Option.some.inj H
       go_wp2_with (first | ((with_reducible refine gate_callee (f := 30) rfl ?_); refine goesL_ (some 113) rfl rfl Try.func30 (by kernel_rfl) rfl #[.slice Ao51 t423.length co51, .int .i64 1] rfl (by (try simp only [List.map_toArray, List.map_cons, List.map_nil]); first | done | rfl | (simp only [List.length_drop, List.length_take]; rfl)) ?_; (with_reducible refine (laws_heldIntS.calls kj49 _ _ t423 1 t434 _ ?side1 ?side2 A66.out).mono ?_); (case side1 => repeat (first | exact (Kd.R_reads' HO_9.out).2.2 | (with_reducible first | refine zCa ?_ _ | refine zCn ?_ _ | refine zCd ?_))); (case side2 => exact (Kd.R_reads' HO_9.out).2.1); rintro e w' ⟨rfl, ⟨nd, rfl⟩⟩; refine ⟨_, rfl, ?_⟩))
       go_ret
       exact ⟨by first | rfl | (simp [errW_none, errW_some] <;> rfl) | (simp [*, errW_none, errW_some] <;> rfl), by repeat (first | (with_reducible first | exact HB.out | apply zBa | apply zBn | apply zBd) | exact HB.out)⟩

/-- THE ONE PURE STATEMENT of laws_FnExactOpenFrame: yours. -/
def laws_FnExactOpenFrame.Pure : Prop := ∀ (l0 : List Int) (a1 : Int), l0.length ≤ maxLen → l0.length * 1 ≤ 140737488351232 → (∀ x ∈ l0, (Lit.int .u8 x).wf = true) → (Lit.int .i64 a1).wf = true → ∃ k, laws_FnExactOpenFrame.f k l0 a1 = some true
theorem laws_FnExactOpenFrame.walk (P : laws_FnExactOpenFrame.Pure) (a0 : Option Addr) (len0 cap0 : Nat) (z0 : List Int) (a1 : Int) (w : World) (w0 : (a0 = none ∧ len0 = 0 ∧ cap0 = 0 ∧ z0 = []) ∨ ∃ x, a0 = some x ∧ len0 ≤ cap0 ∧ cap0 ≤ maxLen ∧ z0.length = cap0 ∧ (∀ i, i < z0.length → w.cell? (x.add i) = some (.int .u8 (z0.getD i 0))) ∧ ∀ n ∈ z0, (Lit.int .u8 n).wf = true) (y0 : len0 * 1 ≤ 140737488351232) (w1 : (Lit.int .i64 a1).wf = true) :
 Calls Try.prog 10 #[.slice a0 len0 cap0, .int .i64 a1] w fun e w' => e = .returned (.bool true) ∧ Below w.heap.size w w' := by
 obtain ⟨l0, rfl, hr0, hm0, hw0, hc0⟩ := ReadsInt.ofRowC w0
 obtain ⟨k, h⟩ := P l0 a1 hm0 y0 hw0 w1
 refine (laws_FnExactOpenFrame.calls k _ _ l0 a1 true w (Kd.C_of_reads (d := (0 : Int)) (h1 := fun _ => rfl) hr0) hc0 rfl h).mono ?_
 rintro e w' ⟨rfl, hd⟩
 exact ⟨rfl, hd⟩

end Go.Proofs.Ytieadaglkibjbaa.PFnExactOpenFrame
