-- Written by a turned copy of the print (see the notes of this repo): plain functions and their walks. Lean checks it.
import Derived.Test.YtieadaglkibjbaaPFnExactOpenAllx0
import Derived.Test.YtieadaglkibjbaaPFnExactOpenAllx1
import Derived.Test.YtieadaglkibjbaaPFnExactOpenAllx6
import Derived.Test.YtieadaglkibjbaaPFnExactOpenAllx12
namespace Go.Proofs.Ytieadaglkibjbaa.PFnExactOpenAll
open Go.RowKit Go.Proofs.YtieadaglkibjbaaW.PrintWords Go.Proofs.YtieadaglkibjbaaW.PrintLast Go.Proofs.YtieadaglkibjbaaW.PrintMore
attribute [local go_sem] max2_int min2_int max_two min_two max_three min_three max_four min_four   -- for this text's walks alone
set_option linter.unusedVariables false
set_option linter.unusedSimpArgs false

/-! ### laws_FnExactOpenAll: function 14 -/
mutual
def laws_FnExactOpenAll.j0 : Nat → List Int → List Int → List Int → Int → List Int → List Int → List Int → Int → Bool → Option (Bool)
 | 0, _, _, _, _, _, _, _, _, _ => none
 | k + 1, x0, x3, x4, x5, x6, x7, x8, x9, x48 => if x48 = true then (some false) else ((laws_toByteS.f k x0).bind fun t448 => ((laws_eqByteS.f k x6 t448).bind fun t451 => (if t451 = true then ((laws_markByteS.f k x6 1).bind fun bt452 => (if bt452.1 < 0 then (laws_FnExactOpenAll.j1 k x0 x3 x4 x5 x7 x8 true) else ((laws_eqIntS.f k x7 x3).bind fun t454 => (if t454 = true then ((laws_eqIntS.f k x8 x4).bind fun t455 => (if t455 = true then (laws_FnExactOpenAll.j1 k x0 x3 x4 x5 x7 x8 (x9 != x5)) else (laws_FnExactOpenAll.j1 k x0 x3 x4 x5 x7 x8 true))) else (laws_FnExactOpenAll.j1 k x0 x3 x4 x5 x7 x8 true))))) else (some false))))
def laws_FnExactOpenAll.j1 : Nat → List Int → List Int → List Int → Int → List Int → List Int → Bool → Option (Bool)
 | 0, _, _, _, _, _, _, _ => none
 | k + 1, x0, x3, x4, x5, x7, x8, x75 => if x75 = true then (some false) else ((laws_markIntS.f k x7 1).bind fun bt456 => ((laws_markIntS.f k x8 bt456.1).bind fun bt458 => ((laws_heldIntS.f k bt456.2 1).bind fun t460 => (if t460 < 0 then (some false) else ((laws_heldIntS.f k bt458.2 t460).bind fun t461 => (if t461 < 0 then (some false) else (if t461 = bt458.1 then ((laws_toByteS.f k x0).bind fun t462 => ((impl_OpenAll.f k t462).bind fun bt465 => ((laws_eqIntS.f k bt465.1 x3).bind fun t472 => (if t472 = true then ((laws_eqIntS.f k bt465.2.1 x4).bind fun t473 => (if t473 = true then (laws_FnExactOpenAll.j2 k bt456.2 bt458.2 bt458.1 (bt465.2.2 != x5)) else (laws_FnExactOpenAll.j2 k bt456.2 bt458.2 bt458.1 true))) else (laws_FnExactOpenAll.j2 k bt456.2 bt458.2 bt458.1 true))))) else (some false))))))))
def laws_FnExactOpenAll.j2 : Nat → List Int → List Int → Int → Bool → Option (Bool)
 | 0, _, _, _, _ => none
 | k + 1, x7, x8, x11, x116 => if x116 = true then (some false) else ((laws_heldIntS.f k x7 1).bind fun t474 => (if t474 < 0 then (some false) else ((laws_heldIntS.f k x8 t474).bind fun t475 => (if t475 < 0 then (some false) else (if t475 = x11 then (some true) else (some false))))))
end
def laws_FnExactOpenAll.f (k : Nat) (l0 : List Int) : Option (Bool) := if (l0.length : Int) > 1048576 then (some true) else ((laws_toByteS.f k l0).bind fun t426 => ((spec_OpenAll.f k t426).bind fun bt429 => ((laws_toByteS.f k l0).bind fun t436 => ((impl_OpenAll.f k t436).bind fun bt439 => ((laws_eqIntS.f k bt439.1 bt429.1).bind fun t446 => (if t446 = true then ((laws_eqIntS.f k bt439.2.1 bt429.2.1).bind fun t447 => (if t447 = true then (laws_FnExactOpenAll.j0 k l0 bt429.1 bt429.2.1 bt429.2.2 t436 bt439.1 bt439.2.1 bt439.2.2 (bt439.2.2 != bt429.2.2)) else (laws_FnExactOpenAll.j0 k l0 bt429.1 bt429.2.1 bt429.2.2 t436 bt439.1 bt439.2.1 bt439.2.2 true))) else (laws_FnExactOpenAll.j0 k l0 bt429.1 bt429.2.1 bt429.2.2 t436 bt439.1 bt439.2.1 bt439.2.2 true)))))))
theorem laws_FnExactOpenAll.mono_l : ∀ k, (∀ y0 y1 y2 y3 y4 y5 y6 y7 y8, LeO (laws_FnExactOpenAll.j0 k y0 y1 y2 y3 y4 y5 y6 y7 y8) (laws_FnExactOpenAll.j0 (k + 1) y0 y1 y2 y3 y4 y5 y6 y7 y8)) ∧ (∀ y0 y1 y2 y3 y4 y5 y6, LeO (laws_FnExactOpenAll.j1 k y0 y1 y2 y3 y4 y5 y6) (laws_FnExactOpenAll.j1 (k + 1) y0 y1 y2 y3 y4 y5 y6)) ∧ (∀ y0 y1 y2 y3, LeO (laws_FnExactOpenAll.j2 k y0 y1 y2 y3) (laws_FnExactOpenAll.j2 (k + 1) y0 y1 y2 y3))
 | 0 => ⟨fun _ _ _ _ _ _ _ _ _ r h => by simp [laws_FnExactOpenAll.j0] at h, fun _ _ _ _ _ _ _ r h => by simp [laws_FnExactOpenAll.j1] at h, fun _ _ _ _ r h => by simp [laws_FnExactOpenAll.j2] at h⟩
 | k + 1 => by
  obtain ⟨ih0, ih1, ih2⟩ := laws_FnExactOpenAll.mono_l k
  refine ⟨?_, ?_, ?_⟩
  ·intro y0 y1 y2 y3 y4 y5 y6 y7 y8
   unfold laws_FnExactOpenAll.j0
   repeat' first
   | (with_reducible exact ih0 _ _ _ _ _ _ _ _ _)
   | (with_reducible exact ih1 _ _ _ _ _ _ _)
   | (with_reducible exact ih2 _ _ _ _)
   | (with_reducible exact impl_OpenAll.mono _ _)
   | (with_reducible exact laws_eqByteS.mono _ _ _)
   | (with_reducible exact laws_eqIntS.mono _ _ _)
   | (with_reducible exact laws_heldIntS.mono _ _ _)
   | (with_reducible exact laws_markByteS.mono _ _ _)
   | (with_reducible exact laws_markIntS.mono _ _ _)
   | (with_reducible exact laws_toByteS.mono _ _)
   | (with_reducible exact spec_OpenAll.mono _ _)
   | (with_reducible exact LeO.refl _)
   | (with_reducible exact LeO.none _)
   | (with_reducible refine LeO.ite ?_ ?_)
   | (with_reducible refine LeO.bind ?_ (fun _ => ?_))
   | exact ih0 _ _ _ _ _ _ _ _ _
   | exact ih1 _ _ _ _ _ _ _
   | exact ih2 _ _ _ _
   | exact impl_OpenAll.mono _ _
   | exact laws_eqByteS.mono _ _ _
   | exact laws_eqIntS.mono _ _ _
   | exact laws_heldIntS.mono _ _ _
   | exact laws_markByteS.mono _ _ _
   | exact laws_markIntS.mono _ _ _
   | exact laws_toByteS.mono _ _
   | exact spec_OpenAll.mono _ _
   | exact LeO.none _
   | refine LeO.ite ?_ ?_
   | refine LeO.bind ?_ (fun _ => ?_)
  ·intro y0 y1 y2 y3 y4 y5 y6
   unfold laws_FnExactOpenAll.j1
   repeat' first
   | (with_reducible exact ih0 _ _ _ _ _ _ _ _ _)
   | (with_reducible exact ih1 _ _ _ _ _ _ _)
   | (with_reducible exact ih2 _ _ _ _)
   | (with_reducible exact impl_OpenAll.mono _ _)
   | (with_reducible exact laws_eqByteS.mono _ _ _)
   | (with_reducible exact laws_eqIntS.mono _ _ _)
   | (with_reducible exact laws_heldIntS.mono _ _ _)
   | (with_reducible exact laws_markByteS.mono _ _ _)
   | (with_reducible exact laws_markIntS.mono _ _ _)
   | (with_reducible exact laws_toByteS.mono _ _)
   | (with_reducible exact spec_OpenAll.mono _ _)
   | (with_reducible exact LeO.refl _)
   | (with_reducible exact LeO.none _)
   | (with_reducible refine LeO.ite ?_ ?_)
   | (with_reducible refine LeO.bind ?_ (fun _ => ?_))
   | exact ih0 _ _ _ _ _ _ _ _ _
   | exact ih1 _ _ _ _ _ _ _
   | exact ih2 _ _ _ _
   | exact impl_OpenAll.mono _ _
   | exact laws_eqByteS.mono _ _ _
   | exact laws_eqIntS.mono _ _ _
   | exact laws_heldIntS.mono _ _ _
   | exact laws_markByteS.mono _ _ _
   | exact laws_markIntS.mono _ _ _
   | exact laws_toByteS.mono _ _
   | exact spec_OpenAll.mono _ _
   | exact LeO.none _
   | refine LeO.ite ?_ ?_
   | refine LeO.bind ?_ (fun _ => ?_)
  ·intro y0 y1 y2 y3
   unfold laws_FnExactOpenAll.j2
   repeat' first
   | (with_reducible exact ih0 _ _ _ _ _ _ _ _ _)
   | (with_reducible exact ih1 _ _ _ _ _ _ _)
   | (with_reducible exact ih2 _ _ _ _)
   | (with_reducible exact impl_OpenAll.mono _ _)
   | (with_reducible exact laws_eqByteS.mono _ _ _)
   | (with_reducible exact laws_eqIntS.mono _ _ _)
   | (with_reducible exact laws_heldIntS.mono _ _ _)
   | (with_reducible exact laws_markByteS.mono _ _ _)
   | (with_reducible exact laws_markIntS.mono _ _ _)
   | (with_reducible exact laws_toByteS.mono _ _)
   | (with_reducible exact spec_OpenAll.mono _ _)
   | (with_reducible exact LeO.refl _)
   | (with_reducible exact LeO.none _)
   | (with_reducible refine LeO.ite ?_ ?_)
   | (with_reducible refine LeO.bind ?_ (fun _ => ?_))
   | exact ih0 _ _ _ _ _ _ _ _ _
   | exact ih1 _ _ _ _ _ _ _
   | exact ih2 _ _ _ _
   | exact impl_OpenAll.mono _ _
   | exact laws_eqByteS.mono _ _ _
   | exact laws_eqIntS.mono _ _ _
   | exact laws_heldIntS.mono _ _ _
   | exact laws_markByteS.mono _ _ _
   | exact laws_markIntS.mono _ _ _
   | exact laws_toByteS.mono _ _
   | exact spec_OpenAll.mono _ _
   | exact LeO.none _
   | refine LeO.ite ?_ ?_
   | refine LeO.bind ?_ (fun _ => ?_)
theorem laws_FnExactOpenAll.mono : ∀ a0 k, LeO (laws_FnExactOpenAll.f k a0) (laws_FnExactOpenAll.f (k + 1) a0) := by
 intro a0 k
 obtain ⟨ih0, ih1, ih2⟩ := laws_FnExactOpenAll.mono_l k
 unfold laws_FnExactOpenAll.f
 repeat' first
  | (with_reducible exact ih0 _ _ _ _ _ _ _ _ _)
  | (with_reducible exact ih1 _ _ _ _ _ _ _)
  | (with_reducible exact ih2 _ _ _ _)
  | (with_reducible exact impl_OpenAll.mono _ _)
  | (with_reducible exact laws_eqByteS.mono _ _ _)
  | (with_reducible exact laws_eqIntS.mono _ _ _)
  | (with_reducible exact laws_heldIntS.mono _ _ _)
  | (with_reducible exact laws_markByteS.mono _ _ _)
  | (with_reducible exact laws_markIntS.mono _ _ _)
  | (with_reducible exact laws_toByteS.mono _ _)
  | (with_reducible exact spec_OpenAll.mono _ _)
  | (with_reducible exact LeO.refl _)
  | (with_reducible exact LeO.none _)
  | (with_reducible refine LeO.ite ?_ ?_)
  | (with_reducible refine LeO.bind ?_ (fun _ => ?_))
  | exact ih0 _ _ _ _ _ _ _ _ _
  | exact ih1 _ _ _ _ _ _ _
  | exact ih2 _ _ _ _
  | exact impl_OpenAll.mono _ _
  | exact laws_eqByteS.mono _ _ _
  | exact laws_eqIntS.mono _ _ _
  | exact laws_heldIntS.mono _ _ _
  | exact laws_markByteS.mono _ _ _
  | exact laws_markIntS.mono _ _ _
  | exact laws_toByteS.mono _ _
  | exact spec_OpenAll.mono _ _
  | exact LeO.none _
  | refine LeO.ite ?_ ?_
  | refine LeO.bind ?_ (fun _ => ?_)
set_option maxHeartbeats 8000000 in
set_option maxRecDepth 100000 in
theorem laws_FnExactOpenAll.calls (k : Nat) (A0 : Option Addr) (c0 : Nat) (l0 : List Int) (r : Bool) (w : World) (hr0 : Kd.C (Kd.int .u8) w A0 l0.length l0) (hc0 : l0.length ≤ c0) (hr_ : r = true) (h : laws_FnExactOpenAll.f k l0 = some r) :
 Calls Try.prog 14 #[.slice A0 l0.length c0] w fun e w' => e = .returned (.bool r) ∧ Below w.heap.size w w' := by
 have HR0 := Aside0.mk hr0
 have HC0 := Aside0.mk hc0
 clear hr0 hc0
 have HB := Aside0.mk (Below.refl w.heap.size w)
 have H : (if (l0.length : Int) > 1048576 then (some true) else ((laws_toByteS.f k l0).bind fun t426 => ((spec_OpenAll.f k t426).bind fun bt429 => ((laws_toByteS.f k l0).bind fun t436 => ((impl_OpenAll.f k t436).bind fun bt439 => ((laws_eqIntS.f k bt439.1 bt429.1).bind fun t446 => (if t446 = true then ((laws_eqIntS.f k bt439.2.1 bt429.2.1).bind fun t447 => (if t447 = true then (laws_FnExactOpenAll.j0 k l0 bt429.1 bt429.2.1 bt429.2.2 t436 bt439.1 bt439.2.1 bt439.2.2 (bt439.2.2 != bt429.2.2)) else (laws_FnExactOpenAll.j0 k l0 bt429.1 bt429.2.1 bt429.2.2 t436 bt439.1 bt439.2.1 bt439.2.2 true))) else (laws_FnExactOpenAll.j0 k l0 bt429.1 bt429.2.1 bt429.2.2 t436 bt439.1 bt439.2.1 bt439.2.2 true)))))))) = some r := h
 clear h
 by_cases c2 : (l0.length : Int) > 1048576
 case pos =>
  rw [if_pos c2] at H
  have c2b0 : decide (1048576 < (l0.length : Int)) = true := zE c2
  have c2b1 : decide (1048576 < l0.length) = true := zE (by omega)
  clear c2
  obtain rfl := Option.some.inj H
  go_enter Try.func14, Try.ntmps14
  go_wp2
  go_ret
  exact ⟨by first | rfl | (simp [errW_none, errW_some] <;> rfl) | (simp [*, errW_none, errW_some] <;> rfl), by repeat (first | (with_reducible first | exact HB.out | apply zBa | apply zBn | apply zBd) | exact HB.out)⟩
 rw [if_neg c2] at H
 have c2b0 : decide (1048576 < (l0.length : Int)) = false := decide_eq_false c2
 have c2b1 : decide (1048576 < l0.length) = false := decide_eq_false (by omega)
 clear c2
 replace H := Option.bind_eq_some_iff.mp H
 obtain ⟨t426, A30, H⟩ := H
 replace H : ((spec_OpenAll.f k t426).bind fun bt429 => ((laws_toByteS.f k l0).bind fun t436 => ((impl_OpenAll.f k t436).bind fun bt439 => ((laws_eqIntS.f k bt439.1 bt429.1).bind fun t446 => (if t446 = true then ((laws_eqIntS.f k bt439.2.1 bt429.2.1).bind fun t447 => (if t447 = true then (laws_FnExactOpenAll.j0 k l0 bt429.1 bt429.2.1 bt429.2.2 t436 bt439.1 bt439.2.1 bt439.2.2 (bt439.2.2 != bt429.2.2)) else (laws_FnExactOpenAll.j0 k l0 bt429.1 bt429.2.1 bt429.2.2 t436 bt439.1 bt439.2.1 bt439.2.2 true))) else (laws_FnExactOpenAll.j0 k l0 bt429.1 bt429.2.1 bt429.2.2 t436 bt439.1 bt439.2.1 bt439.2.2 true)))))) = some r := H
 have A3 := Aside0.mk A30
 clear A30
 replace H := Option.bind_eq_some_iff.mp H
 obtain ⟨⟨t429, t430, t431⟩, A40, H⟩ := H
 replace H : ((laws_toByteS.f k l0).bind fun t436 => ((impl_OpenAll.f k t436).bind fun bt439 => ((laws_eqIntS.f k bt439.1 t429).bind fun t446 => (if t446 = true then ((laws_eqIntS.f k bt439.2.1 t430).bind fun t447 => (if t447 = true then (laws_FnExactOpenAll.j0 k l0 t429 t430 t431 t436 bt439.1 bt439.2.1 bt439.2.2 (bt439.2.2 != t431)) else (laws_FnExactOpenAll.j0 k l0 t429 t430 t431 t436 bt439.1 bt439.2.1 bt439.2.2 true))) else (laws_FnExactOpenAll.j0 k l0 t429 t430 t431 t436 bt439.1 bt439.2.1 bt439.2.2 true))))) = some r := H
 have A4 := Aside0.mk A40
 clear A40
 replace H := Option.bind_eq_some_iff.mp H
 obtain ⟨t436, A50, H⟩ := H
 replace H : ((impl_OpenAll.f k t436).bind fun bt439 => ((laws_eqIntS.f k bt439.1 t429).bind fun t446 => (if t446 = true then ((laws_eqIntS.f k bt439.2.1 t430).bind fun t447 => (if t447 = true then (laws_FnExactOpenAll.j0 k l0 t429 t430 t431 t436 bt439.1 bt439.2.1 bt439.2.2 (bt439.2.2 != t431)) else (laws_FnExactOpenAll.j0 k l0 t429 t430 t431 t436 bt439.1 bt439.2.1 bt439.2.2 true))) else (laws_FnExactOpenAll.j0 k l0 t429 t430 t431 t436 bt439.1 bt439.2.1 bt439.2.2 true)))) = some r := H
 have A5 := Aside0.mk A50
 clear A50
 replace H := Option.bind_eq_some_iff.mp H
 obtain ⟨⟨t439, t440, t441⟩, A60, H⟩ := H
 replace H : ((laws_eqIntS.f k t439 t429).bind fun t446 => (if t446 = true then ((laws_eqIntS.f k t440 t430).bind fun t447 => (if t447 = true then (laws_FnExactOpenAll.j0 k l0 t429 t430 t431 t436 t439 t440 t441 (t441 != t431)) else (laws_FnExactOpenAll.j0 k l0 t429 t430 t431 t436 t439 t440 t441 true))) else (laws_FnExactOpenAll.j0 k l0 t429 t430 t431 t436 t439 t440 t441 true))) = some r := H
 have A6 := Aside0.mk A60
 clear A60
 have HC7 := Aside0.mk H
 clear H
 go_enter Try.func14, Try.ntmps14
 go_upto_region 6 with (first | ((with_reducible refine gate_callee (f := 44) rfl ?_); refine goesL_ (some 21) rfl rfl Try.func44 (by kernel_rfl) rfl #[.slice A0 l0.length c0] rfl (by (try simp only [List.map_toArray, List.map_cons, List.map_nil]); first | done | rfl | (simp only [List.length_drop, List.length_take]; rfl)) ?_; (with_reducible refine (laws_toByteS.calls k _ _ l0 t426 _ ?side1 ?side2 A3.out).mono ?_); (case side1 => repeat (first | exact HR0.out | (with_reducible first | refine zCa ?_ _ | refine zCn ?_ _ | refine zCd ?_))); (case side2 => exact HC0.out); rintro e w8 ⟨v427, rfl, ho0, hb⟩; refine ⟨_, rfl, ?_⟩; have n0_ := Aside0.mk (Kd.R_lower ho0 (below_size (by repeat (first | (with_reducible first | exact HB.out | apply zBa | apply zBn | apply zBd) | exact HB.out)))); have n1_ := Aside0.mk (below_step (by repeat (first | (with_reducible first | exact HB.out | apply zBa | apply zBn | apply zBd) | exact HB.out)) hb); clear HB; have HO428 := n0_; have HB := n1_; clear n0_ n1_; (try clear hb); (try clear hb2); (try clear hk); (try clear hi); (try clear ho0); obtain ⟨Ao9, co9, eo9⟩ := Kd.R_slice HO428.out; subst eo9) | ((with_reducible refine gate_callee (f := 50) rfl ?_); refine goesL_ (some 22) rfl rfl Try.func50 (by kernel_rfl) rfl #[.slice Ao9 t426.length co9] rfl (by (try simp only [List.map_toArray, List.map_cons, List.map_nil]); first | done | rfl | (simp only [List.length_drop, List.length_take]; rfl)) ?_; (with_reducible refine (spec_OpenAll.calls k _ _ t426 t429 t430 t431 _ ?side1 ?side2 A4.out).mono ?_); (case side1 => repeat (first | exact (Kd.R_reads' HO428.out).2.2 | (with_reducible first | refine zCa ?_ _ | refine zCn ?_ _ | refine zCd ?_))); (case side2 => exact (Kd.R_reads' HO428.out).2.1); rintro e w10 ⟨v432, v434, rfl, ho0, ho1, hb⟩; refine ⟨_, rfl, ?_⟩; have n0_ := Aside0.mk (Kd.R_below (by (with_reducible repeat (first | apply zRa | apply zRn | apply zRd)); first | exact HO428.out | (subst_vars; exact HO428.out)) hb); have n1_ := Aside0.mk (Kd.R_lower ho0 (below_size (by repeat (first | (with_reducible first | exact HB.out | apply zBa | apply zBn | apply zBd) | exact HB.out)))); have n2_ := Aside0.mk (Kd.R_lower ho1 (below_size (by repeat (first | (with_reducible first | exact HB.out | apply zBa | apply zBn | apply zBd) | exact HB.out)))); have n3_ := Aside0.mk (below_step (by repeat (first | (with_reducible first | exact HB.out | apply zBa | apply zBn | apply zBd) | exact HB.out)) hb); clear HO428; clear HB; have HO428 := n0_; have HO433 := n1_; have HO435 := n2_; have HB := n3_; clear n0_ n1_ n2_ n3_; (try clear hb); (try clear hb2); (try clear hk); (try clear hi); (try clear ho0); (try clear ho1)) | ((with_reducible refine gate_callee (f := 44) rfl ?_); refine goesL_ (some 27) rfl rfl Try.func44 (by kernel_rfl) rfl #[.slice A0 l0.length c0] rfl (by (try simp only [List.map_toArray, List.map_cons, List.map_nil]); first | done | rfl | (simp only [List.length_drop, List.length_take]; rfl)) ?_; (with_reducible refine (laws_toByteS.calls k _ _ l0 t436 _ ?side1 ?side2 A5.out).mono ?_); (case side1 => repeat (first | exact (Kd.C_below HR0.out HB.out) | (with_reducible first | refine zCa ?_ _ | refine zCn ?_ _ | refine zCd ?_))); (case side2 => exact HC0.out); rintro e w11 ⟨v437, rfl, ho0, hb⟩; refine ⟨_, rfl, ?_⟩; have n0_ := Aside0.mk (Kd.R_elder' (by (with_reducible repeat (first | apply zRa | apply zRn | apply zRd)); first | exact HO428.out | (subst_vars; exact HO428.out)) (Kd.R_base ho0) hb); have n1_ := Aside0.mk (Kd.R_below (by (with_reducible repeat (first | apply zRa | apply zRn | apply zRd)); first | exact HO433.out | (subst_vars; exact HO433.out)) hb); have n2_ := Aside0.mk (Kd.R_below (by (with_reducible repeat (first | apply zRa | apply zRn | apply zRd)); first | exact HO435.out | (subst_vars; exact HO435.out)) hb); have n3_ := Aside0.mk (Kd.R_lower (Kd.R_new' ho0 (Kd.R_lt (by (with_reducible repeat (first | apply zRa | apply zRn | apply zRd)); first | exact HO428.out | (subst_vars; exact HO428.out)))) (below_size (by repeat (first | (with_reducible first | exact HB.out | apply zBa | apply zBn | apply zBd) | exact HB.out)))); have n4_ := Aside0.mk (below_step (by repeat (first | (with_reducible first | exact HB.out | apply zBa | apply zBn | apply zBd) | exact HB.out)) hb); clear HO428; clear HO433; clear HO435; clear HB; have HO428 := n0_; have HO433 := n1_; have HO435 := n2_; have HO438 := n3_; have HB := n4_; clear n0_ n1_ n2_ n3_ n4_; (try clear hb); (try clear hb2); (try clear hk); (try clear hi); (try clear ho0); obtain ⟨Ao12, co12, eo12⟩ := Kd.R_slice HO438.out; subst eo12) | ((with_reducible refine gate_callee (f := 46) rfl ?_); refine goesL_ (some 30) rfl rfl Try.func46 (by kernel_rfl) rfl #[.slice Ao12 t436.length co12] rfl (by (try simp only [List.map_toArray, List.map_cons, List.map_nil]); first | done | rfl | (simp only [List.length_drop, List.length_take]; rfl)) ?_; (with_reducible refine (impl_OpenAll.calls k _ _ t436 t439 t440 t441 _ ?side1 ?side2 A6.out).mono ?_); (case side1 => repeat (first | exact (Kd.R_reads' HO438.out).2.2 | (with_reducible first | refine zCa ?_ _ | refine zCn ?_ _ | refine zCd ?_))); (case side2 => exact (Kd.R_reads' HO438.out).2.1); rintro e w13 ⟨v442, v444, rfl, ho0, ho1, hb⟩; refine ⟨_, rfl, ?_⟩; have n0_ := Aside0.mk (Kd.R_below (by (with_reducible repeat (first | apply zRa | apply zRn | apply zRd)); first | exact HO428.out | (subst_vars; exact HO428.out)) hb); have n1_ := Aside0.mk (Kd.R_mono (Kd.R_told (Kd.R_told (Kd.R_old (by (with_reducible repeat (first | apply zRa | apply zRn | apply zRd)); first | exact HO433.out | (subst_vars; exact HO433.out)) hb) (Kd.R_base ho0)) (Kd.R_base ho1)) (fun _ h_ => h_.1)); have n2_ := Aside0.mk (Kd.R_mono (Kd.R_told (Kd.R_told (Kd.R_old (by (with_reducible repeat (first | apply zRa | apply zRn | apply zRd)); first | exact HO435.out | (subst_vars; exact HO435.out)) hb) (Kd.R_base ho0)) (Kd.R_base ho1)) (fun _ h_ => h_.1)); have n3_ := Aside0.mk (Kd.R_below (by (with_reducible repeat (first | apply zRa | apply zRn | apply zRd)); first | exact HO438.out | (subst_vars; exact HO438.out)) hb); have n4_ := Aside0.mk (Kd.R_lower (Kd.R_new' (Kd.R_new' ho0 (Kd.R_lt (by (with_reducible repeat (first | apply zRa | apply zRn | apply zRd)); first | exact HO433.out | (subst_vars; exact HO433.out)))) (Kd.R_lt (by (with_reducible repeat (first | apply zRa | apply zRn | apply zRd)); first | exact HO435.out | (subst_vars; exact HO435.out)))) (below_size (by repeat (first | (with_reducible first | exact HB.out | apply zBa | apply zBn | apply zBd) | exact HB.out)))); have n5_ := Aside0.mk (Kd.R_lower (Kd.R_new' (Kd.R_new' ho1 (Kd.R_lt (by (with_reducible repeat (first | apply zRa | apply zRn | apply zRd)); first | exact HO433.out | (subst_vars; exact HO433.out)))) (Kd.R_lt (by (with_reducible repeat (first | apply zRa | apply zRn | apply zRd)); first | exact HO435.out | (subst_vars; exact HO435.out)))) (below_size (by repeat (first | (with_reducible first | exact HB.out | apply zBa | apply zBn | apply zBd) | exact HB.out)))); have n6_ := Aside0.mk (below_step (by repeat (first | (with_reducible first | exact HB.out | apply zBa | apply zBn | apply zBd) | exact HB.out)) hb); clear HO428; clear HO433; clear HO435; clear HO438; clear HB; have HO428 := n0_; have HO433 := n1_; have HO435 := n2_; have HO438 := n3_; have HO443 := n4_; have HO445 := n5_; have HB := n6_; clear n0_ n1_ n2_ n3_ n4_ n5_ n6_; (try clear hb); (try clear hb2); (try clear hk); (try clear hi); (try clear ho0); (try clear ho1)))
 (try simp only [Act.put, List.setIfInBounds_toArray, List.set_cons_zero, List.set_cons_succ])
 go_cut [48] (fun v48 wc => ∃ (kq : Nat) (x48_6 : Bool), v48 = .bool x48_6 ∧ Aside0 (laws_FnExactOpenAll.j0 kq l0 t429 t430 t431 t436 t439 t440 t441 x48_6 = some r) ∧ Aside0 (kq ≤ k) ∧ Aside0 (Kd.R (Kd.int .i64) 3 wc w.heap.size (fun k_ => some k_ ≠ (v434 : Value).ownBlock ∧ some k_ ≠ (v442 : Value).ownBlock ∧ some k_ ≠ (v444 : Value).ownBlock) v432 t429) ∧ Aside0 (Kd.R (Kd.int .i64) 3 wc w.heap.size (fun k_ => some k_ ≠ (v432 : Value).ownBlock ∧ some k_ ≠ (v442 : Value).ownBlock ∧ some k_ ≠ (v444 : Value).ownBlock) v434 t430) ∧ Aside0 (Kd.R (Kd.int .u8) 5 wc w.heap.size (fun _ => True) (.slice Ao12 t436.length co12) t436) ∧ Aside0 (Kd.R (Kd.int .i64) 3 wc w.heap.size (fun k_ => some k_ ≠ (v432 : Value).ownBlock ∧ some k_ ≠ (v434 : Value).ownBlock ∧ some k_ ≠ (v444 : Value).ownBlock) v442 t439) ∧ Aside0 (Kd.R (Kd.int .i64) 3 wc w.heap.size (fun k_ => some k_ ≠ (v432 : Value).ownBlock ∧ some k_ ≠ (v434 : Value).ownBlock ∧ some k_ ≠ (v442 : Value).ownBlock) v444 t440) ∧ Aside0 (Below w.heap.size w wc))
 case first =>
  have H := HC7.out
  clear HC7
  replace H := Option.bind_eq_some_iff.mp H
  obtain ⟨t446, A140, H⟩ := H
  replace H : (if t446 = true then ((laws_eqIntS.f k t440 t430).bind fun t447 => (if t447 = true then (laws_FnExactOpenAll.j0 k l0 t429 t430 t431 t436 t439 t440 t441 (t441 != t431)) else (laws_FnExactOpenAll.j0 k l0 t429 t430 t431 t436 t439 t440 t441 true))) else (laws_FnExactOpenAll.j0 k l0 t429 t430 t431 t436 t439 t440 t441 true)) = some r := H
  have A14 := Aside0.mk A140
  clear A140
  by_cases c15 : t446 = true
  case neg =>
   replace c15 := Bool.eq_false_iff.mpr c15
   subst c15
   have H1 : (laws_FnExactOpenAll.j0 k l0 t429 t430 t431 t436 t439 t440 t441 true) = some r := by rw [if_neg (show ¬ (false = true) by decide)] at H; exact H
   clear H
   have H := H1
   clear H1
   have H' := Aside0.mk H
   clear H
   obtain ⟨Ao26, co26, eo26⟩ := Kd.R_slice HO443.out
   subst eo26
   obtain ⟨Ao27, co27, eo27⟩ := Kd.R_slice HO433.out
   subst eo27
   go_wp2_with (first | ((with_reducible refine gate_callee (f := 28) rfl ?_); refine goesL_ (some 36) rfl rfl Try.func28 (by kernel_rfl) rfl #[.slice Ao26 t439.length co26, .slice Ao27 t429.length co27] rfl (by (try simp only [List.map_toArray, List.map_cons, List.map_nil]); first | done | rfl | (simp only [List.length_drop, List.length_take]; rfl)) ?_; (with_reducible refine (laws_eqIntS.calls k _ _ t439 _ _ t429 false _ ?side1 ?side2 ?side3 ?side4 A14.out).mono ?_); (case side1 => repeat (first | exact (Kd.R_reads' HO443.out).2.2 | (with_reducible first | refine zCa ?_ _ | refine zCn ?_ _ | refine zCd ?_))); (case side2 => exact (Kd.R_reads' HO443.out).2.1); (case side3 => repeat (first | exact (Kd.R_reads' HO433.out).2.2 | (with_reducible first | refine zCa ?_ _ | refine zCn ?_ _ | refine zCd ?_))); (case side4 => exact (Kd.R_reads' HO433.out).2.1); rintro e w' ⟨rfl, ⟨nd, rfl⟩⟩; refine ⟨_, rfl, ?_⟩))
   go_meet
   case rel => exact ⟨_, (true), (by first | rfl | (simp; done) | (simp [*]; done)), H', ⟨by first | omega | exact Nat.le_refl _⟩, ⟨by (with_reducible repeat (first | apply zRa | apply zRn | apply zRd)); first | exact Kd.R_mono HO433.out (fun _ hk => ⟨hk.1.1, ⟨hk.1.2, hk.2⟩⟩) | (subst_vars; exact Kd.R_mono HO433.out (fun _ hk => ⟨hk.1.1, ⟨hk.1.2, hk.2⟩⟩))⟩, ⟨by (with_reducible repeat (first | apply zRa | apply zRn | apply zRd)); first | exact Kd.R_mono HO435.out (fun _ hk => ⟨hk.1.1, ⟨hk.1.2, hk.2⟩⟩) | (subst_vars; exact Kd.R_mono HO435.out (fun _ hk => ⟨hk.1.1, ⟨hk.1.2, hk.2⟩⟩))⟩, ⟨by (with_reducible repeat (first | apply zRa | apply zRn | apply zRd)); first | exact Kd.R_mono HO438.out (fun _ hk => trivial) | (subst_vars; exact Kd.R_mono HO438.out (fun _ hk => trivial))⟩, ⟨by (with_reducible repeat (first | apply zRa | apply zRn | apply zRd)); first | exact Kd.R_mono HO443.out (fun _ hk => ⟨hk.1.2, ⟨hk.2, hk.1.1⟩⟩) | (subst_vars; exact Kd.R_mono HO443.out (fun _ hk => ⟨hk.1.2, ⟨hk.2, hk.1.1⟩⟩))⟩, ⟨by (with_reducible repeat (first | apply zRa | apply zRn | apply zRd)); first | exact Kd.R_mono HO445.out (fun _ hk => ⟨hk.1.2, ⟨hk.2, hk.1.1⟩⟩) | (subst_vars; exact Kd.R_mono HO445.out (fun _ hk => ⟨hk.1.2, ⟨hk.2, hk.1.1⟩⟩))⟩, ⟨by repeat (first | (with_reducible first | exact HB.out | apply zBa | apply zBn | apply zBd) | exact HB.out)⟩⟩
  subst c15
  have H1 : ((laws_eqIntS.f k t440 t430).bind fun t447 => (if t447 = true then (laws_FnExactOpenAll.j0 k l0 t429 t430 t431 t436 t439 t440 t441 (t441 != t431)) else (laws_FnExactOpenAll.j0 k l0 t429 t430 t431 t436 t439 t440 t441 true))) = some r := by rw [if_pos rfl] at H; exact H
  clear H
  have H := H1
  clear H1
  replace H := Option.bind_eq_some_iff.mp H
  obtain ⟨t447, A160, H⟩ := H
  replace H : (if t447 = true then (laws_FnExactOpenAll.j0 k l0 t429 t430 t431 t436 t439 t440 t441 (t441 != t431)) else (laws_FnExactOpenAll.j0 k l0 t429 t430 t431 t436 t439 t440 t441 true)) = some r := H
  have A16 := Aside0.mk A160
  clear A160
  by_cases c17 : t447 = true
  case pos =>
   subst c17
   have H1 : (laws_FnExactOpenAll.j0 k l0 t429 t430 t431 t436 t439 t440 t441 (t441 != t431)) = some r := by rw [if_pos rfl] at H; exact H
   clear H
   have H := H1
   clear H1
   have H' := Aside0.mk H
   clear H
   obtain ⟨Ao18, co18, eo18⟩ := Kd.R_slice HO443.out
   subst eo18
   obtain ⟨Ao19, co19, eo19⟩ := Kd.R_slice HO433.out
   subst eo19
   go_wp2_with (first | ((with_reducible refine gate_callee (f := 28) rfl ?_); refine goesL_ (some 36) rfl rfl Try.func28 (by kernel_rfl) rfl #[.slice Ao18 t439.length co18, .slice Ao19 t429.length co19] rfl (by (try simp only [List.map_toArray, List.map_cons, List.map_nil]); first | done | rfl | (simp only [List.length_drop, List.length_take]; rfl)) ?_; (with_reducible refine (laws_eqIntS.calls k _ _ t439 _ _ t429 true _ ?side1 ?side2 ?side3 ?side4 A14.out).mono ?_); (case side1 => repeat (first | exact (Kd.R_reads' HO443.out).2.2 | (with_reducible first | refine zCa ?_ _ | refine zCn ?_ _ | refine zCd ?_))); (case side2 => exact (Kd.R_reads' HO443.out).2.1); (case side3 => repeat (first | exact (Kd.R_reads' HO433.out).2.2 | (with_reducible first | refine zCa ?_ _ | refine zCn ?_ _ | refine zCd ?_))); (case side4 => exact (Kd.R_reads' HO433.out).2.1); rintro e w' ⟨rfl, ⟨nd, rfl⟩⟩; refine ⟨_, rfl, ?_⟩; obtain ⟨Ao20, co20, eo20⟩ := Kd.R_slice HO445.out; subst eo20; obtain ⟨Ao21, co21, eo21⟩ := Kd.R_slice HO435.out; subst eo21) | (go_at_call 28; (with_reducible refine (laws_eqIntS.calls k _ _ t440 _ _ t430 true _ ?side1 ?side2 ?side3 ?side4 A16.out).mono ?_); (case side1 => repeat (first | exact (Kd.R_reads' HO445.out).2.2 | (with_reducible first | refine zCa ?_ _ | refine zCn ?_ _ | refine zCd ?_))); (case side2 => exact (Kd.R_reads' HO445.out).2.1); (case side3 => repeat (first | exact (Kd.R_reads' HO435.out).2.2 | (with_reducible first | refine zCa ?_ _ | refine zCn ?_ _ | refine zCd ?_))); (case side4 => exact (Kd.R_reads' HO435.out).2.1); rintro e w' ⟨rfl, ⟨nd, rfl⟩⟩))
   go_meet
   case rel => exact ⟨_, ((t441 != t431)), (by first | rfl | (simp; done) | (simp [*]; done)), H', ⟨by first | omega | exact Nat.le_refl _⟩, ⟨by (with_reducible repeat (first | apply zRa | apply zRn | apply zRd)); first | exact Kd.R_mono HO433.out (fun _ hk => ⟨hk.1.1, ⟨hk.1.2, hk.2⟩⟩) | (subst_vars; exact Kd.R_mono HO433.out (fun _ hk => ⟨hk.1.1, ⟨hk.1.2, hk.2⟩⟩))⟩, ⟨by (with_reducible repeat (first | apply zRa | apply zRn | apply zRd)); first | exact Kd.R_mono HO435.out (fun _ hk => ⟨hk.1.1, ⟨hk.1.2, hk.2⟩⟩) | (subst_vars; exact Kd.R_mono HO435.out (fun _ hk => ⟨hk.1.1, ⟨hk.1.2, hk.2⟩⟩))⟩, ⟨by (with_reducible repeat (first | apply zRa | apply zRn | apply zRd)); first | exact Kd.R_mono HO438.out (fun _ hk => trivial) | (subst_vars; exact Kd.R_mono HO438.out (fun _ hk => trivial))⟩, ⟨by (with_reducible repeat (first | apply zRa | apply zRn | apply zRd)); first | exact Kd.R_mono HO443.out (fun _ hk => ⟨hk.1.2, ⟨hk.2, hk.1.1⟩⟩) | (subst_vars; exact Kd.R_mono HO443.out (fun _ hk => ⟨hk.1.2, ⟨hk.2, hk.1.1⟩⟩))⟩, ⟨by (with_reducible repeat (first | apply zRa | apply zRn | apply zRd)); first | exact Kd.R_mono HO445.out (fun _ hk => ⟨hk.1.2, ⟨hk.2, hk.1.1⟩⟩) | (subst_vars; exact Kd.R_mono HO445.out (fun _ hk => ⟨hk.1.2, ⟨hk.2, hk.1.1⟩⟩))⟩, ⟨by repeat (first | (with_reducible first | exact HB.out | apply zBa | apply zBn | apply zBd) | exact HB.out)⟩⟩
  replace c17 := Bool.eq_false_iff.mpr c17
  subst c17
  have H1 : (laws_FnExactOpenAll.j0 k l0 t429 t430 t431 t436 t439 t440 t441 true) = some r := by rw [if_neg (show ¬ (false = true) by decide)] at H; exact H
  clear H
  have H := H1
  clear H1
  have H' := Aside0.mk H
  clear H
  obtain ⟨Ao22, co22, eo22⟩ := Kd.R_slice HO443.out
  subst eo22
  obtain ⟨Ao23, co23, eo23⟩ := Kd.R_slice HO433.out
  subst eo23
  go_wp2_with (first | ((with_reducible refine gate_callee (f := 28) rfl ?_); refine goesL_ (some 36) rfl rfl Try.func28 (by kernel_rfl) rfl #[.slice Ao22 t439.length co22, .slice Ao23 t429.length co23] rfl (by (try simp only [List.map_toArray, List.map_cons, List.map_nil]); first | done | rfl | (simp only [List.length_drop, List.length_take]; rfl)) ?_; (with_reducible refine (laws_eqIntS.calls k _ _ t439 _ _ t429 true _ ?side1 ?side2 ?side3 ?side4 A14.out).mono ?_); (case side1 => repeat (first | exact (Kd.R_reads' HO443.out).2.2 | (with_reducible first | refine zCa ?_ _ | refine zCn ?_ _ | refine zCd ?_))); (case side2 => exact (Kd.R_reads' HO443.out).2.1); (case side3 => repeat (first | exact (Kd.R_reads' HO433.out).2.2 | (with_reducible first | refine zCa ?_ _ | refine zCn ?_ _ | refine zCd ?_))); (case side4 => exact (Kd.R_reads' HO433.out).2.1); rintro e w' ⟨rfl, ⟨nd, rfl⟩⟩; refine ⟨_, rfl, ?_⟩; obtain ⟨Ao24, co24, eo24⟩ := Kd.R_slice HO445.out; subst eo24; obtain ⟨Ao25, co25, eo25⟩ := Kd.R_slice HO435.out; subst eo25) | (go_at_call 28; (with_reducible refine (laws_eqIntS.calls k _ _ t440 _ _ t430 false _ ?side1 ?side2 ?side3 ?side4 A16.out).mono ?_); (case side1 => repeat (first | exact (Kd.R_reads' HO445.out).2.2 | (with_reducible first | refine zCa ?_ _ | refine zCn ?_ _ | refine zCd ?_))); (case side2 => exact (Kd.R_reads' HO445.out).2.1); (case side3 => repeat (first | exact (Kd.R_reads' HO435.out).2.2 | (with_reducible first | refine zCa ?_ _ | refine zCn ?_ _ | refine zCd ?_))); (case side4 => exact (Kd.R_reads' HO435.out).2.1); rintro e w' ⟨rfl, ⟨nd, rfl⟩⟩))
  go_meet
  case rel => exact ⟨_, (true), (by first | rfl | (simp; done) | (simp [*]; done)), H', ⟨by first | omega | exact Nat.le_refl _⟩, ⟨by (with_reducible repeat (first | apply zRa | apply zRn | apply zRd)); first | exact Kd.R_mono HO433.out (fun _ hk => ⟨hk.1.1, ⟨hk.1.2, hk.2⟩⟩) | (subst_vars; exact Kd.R_mono HO433.out (fun _ hk => ⟨hk.1.1, ⟨hk.1.2, hk.2⟩⟩))⟩, ⟨by (with_reducible repeat (first | apply zRa | apply zRn | apply zRd)); first | exact Kd.R_mono HO435.out (fun _ hk => ⟨hk.1.1, ⟨hk.1.2, hk.2⟩⟩) | (subst_vars; exact Kd.R_mono HO435.out (fun _ hk => ⟨hk.1.1, ⟨hk.1.2, hk.2⟩⟩))⟩, ⟨by (with_reducible repeat (first | apply zRa | apply zRn | apply zRd)); first | exact Kd.R_mono HO438.out (fun _ hk => trivial) | (subst_vars; exact Kd.R_mono HO438.out (fun _ hk => trivial))⟩, ⟨by (with_reducible repeat (first | apply zRa | apply zRn | apply zRd)); first | exact Kd.R_mono HO443.out (fun _ hk => ⟨hk.1.2, ⟨hk.2, hk.1.1⟩⟩) | (subst_vars; exact Kd.R_mono HO443.out (fun _ hk => ⟨hk.1.2, ⟨hk.2, hk.1.1⟩⟩))⟩, ⟨by (with_reducible repeat (first | apply zRa | apply zRn | apply zRd)); first | exact Kd.R_mono HO445.out (fun _ hk => ⟨hk.1.2, ⟨hk.2, hk.1.1⟩⟩) | (subst_vars; exact Kd.R_mono HO445.out (fun _ hk => ⟨hk.1.2, ⟨hk.2, hk.1.1⟩⟩))⟩, ⟨by repeat (first | (with_reducible first | exact HB.out | apply zBa | apply zBn | apply zBd) | exact HB.out)⟩⟩
 case rest =>
  clear HC7
  try clear c1
  try clear c2
  try clear c2b0
  try clear c2b1
  try clear p2
  try clear c4
  try clear c5
  try clear c14
  try clear c15
  try clear c17
  obtain ⟨kq, x48_6, rfl, HA, HJ6, HO_3, HO_4, HO_6, HO_7, HO_8, HB⟩ := hcut
  cases kq with
  | zero => exact absurd HA.out (by simp [laws_FnExactOpenAll.j0])
  | succ kj6 =>
   have H := HA.out
   clear HA
   simp only [laws_FnExactOpenAll.j0] at H
   by_cases c28 : x48_6 = true
   case pos =>
    subst c28
    have H1 : (some false) = some r := by rw [if_pos rfl] at H; exact H
    clear H
    have H := H1
    clear H1
    exact absurd (Option.some.inj H) (by rw [hr_]; decide)
   replace c28 := Bool.eq_false_iff.mpr c28
   subst c28
   have H1 : ((laws_toByteS.f kj6 l0).bind fun t448 => ((laws_eqByteS.f kj6 t436 t448).bind fun t451 => (if t451 = true then ((laws_markByteS.f kj6 t436 1).bind fun bt452 => (if bt452.1 < 0 then (laws_FnExactOpenAll.j1 kj6 l0 t429 t430 t431 t439 t440 true) else ((laws_eqIntS.f kj6 t439 t429).bind fun t454 => (if t454 = true then ((laws_eqIntS.f kj6 t440 t430).bind fun t455 => (if t455 = true then (laws_FnExactOpenAll.j1 kj6 l0 t429 t430 t431 t439 t440 (t441 != t431)) else (laws_FnExactOpenAll.j1 kj6 l0 t429 t430 t431 t439 t440 true))) else (laws_FnExactOpenAll.j1 kj6 l0 t429 t430 t431 t439 t440 true))))) else (some false)))) = some r := by rw [if_neg (show ¬ (false = true) by decide)] at H; exact H
   clear H
   have H := H1
   clear H1
   replace H := Option.bind_eq_some_iff.mp H
   obtain ⟨t448, A290, H⟩ := H
   replace H : ((laws_eqByteS.f kj6 t436 t448).bind fun t451 => (if t451 = true then ((laws_markByteS.f kj6 t436 1).bind fun bt452 => (if bt452.1 < 0 then (laws_FnExactOpenAll.j1 kj6 l0 t429 t430 t431 t439 t440 true) else ((laws_eqIntS.f kj6 t439 t429).bind fun t454 => (if t454 = true then ((laws_eqIntS.f kj6 t440 t430).bind fun t455 => (if t455 = true then (laws_FnExactOpenAll.j1 kj6 l0 t429 t430 t431 t439 t440 (t441 != t431)) else (laws_FnExactOpenAll.j1 kj6 l0 t429 t430 t431 t439 t440 true))) else (laws_FnExactOpenAll.j1 kj6 l0 t429 t430 t431 t439 t440 true))))) else (some false))) = some r := H
   have A29 := Aside0.mk A290
   clear A290
   replace H := Option.bind_eq_some_iff.mp H
   obtain ⟨t451, A300, H⟩ := H
   replace H : (if t451 = true then ((laws_markByteS.f kj6 t436 1).bind fun bt452 => (if bt452.1 < 0 then (laws_FnExactOpenAll.j1 kj6 l0 t429 t430 t431 t439 t440 true) else ((laws_eqIntS.f kj6 t439 t429).bind fun t454 => (if t454 = true then ((laws_eqIntS.f kj6 t440 t430).bind fun t455 => (if t455 = true then (laws_FnExactOpenAll.j1 kj6 l0 t429 t430 t431 t439 t440 (t441 != t431)) else (laws_FnExactOpenAll.j1 kj6 l0 t429 t430 t431 t439 t440 true))) else (laws_FnExactOpenAll.j1 kj6 l0 t429 t430 t431 t439 t440 true))))) else (some false)) = some r := H
   have A30 := Aside0.mk A300
   clear A300
   by_cases c31 : t451 = true
   case neg =>
    replace c31 := Bool.eq_false_iff.mpr c31
    subst c31
    have H1 : (some false) = some r := by rw [if_neg (show ¬ (false = true) by decide)] at H; exact H
    clear H
    have H := H1
    clear H1
    exact absurd (Option.some.inj H) (by rw [hr_]; decide)
   subst c31
   have H1 : ((laws_markByteS.f kj6 t436 1).bind fun bt452 => (if bt452.1 < 0 then (laws_FnExactOpenAll.j1 kj6 l0 t429 t430 t431 t439 t440 true) else ((laws_eqIntS.f kj6 t439 t429).bind fun t454 => (if t454 = true then ((laws_eqIntS.f kj6 t440 t430).bind fun t455 => (if t455 = true then (laws_FnExactOpenAll.j1 kj6 l0 t429 t430 t431 t439 t440 (t441 != t431)) else (laws_FnExactOpenAll.j1 kj6 l0 t429 t430 t431 t439 t440 true))) else (laws_FnExactOpenAll.j1 kj6 l0 t429 t430 t431 t439 t440 true))))) = some r := by rw [if_pos rfl] at H; exact H
   clear H
   have H := H1
   clear H1
   replace H := Option.bind_eq_some_iff.mp H
   obtain ⟨⟨t452, t453⟩, A320, H⟩ := H
   replace H : (if t452 < 0 then (laws_FnExactOpenAll.j1 kj6 l0 t429 t430 t431 t439 t440 true) else ((laws_eqIntS.f kj6 t439 t429).bind fun t454 => (if t454 = true then ((laws_eqIntS.f kj6 t440 t430).bind fun t455 => (if t455 = true then (laws_FnExactOpenAll.j1 kj6 l0 t429 t430 t431 t439 t440 (t441 != t431)) else (laws_FnExactOpenAll.j1 kj6 l0 t429 t430 t431 t439 t440 true))) else (laws_FnExactOpenAll.j1 kj6 l0 t429 t430 t431 t439 t440 true)))) = some r := H
   have A32 := Aside0.mk A320
   clear A320
   have HC33 := Aside0.mk H
   clear H
   go_upto_region 12 with (first | ((with_reducible refine gate_callee (f := 44) rfl ?_); refine goesL_ (some 51) rfl rfl Try.func44 (by kernel_rfl) rfl #[.slice A0 l0.length c0] rfl (by (try simp only [List.map_toArray, List.map_cons, List.map_nil]); first | done | rfl | (simp only [List.length_drop, List.length_take]; rfl)) ?_; (with_reducible refine (laws_toByteS.calls kj6 _ _ l0 t448 _ ?side1 ?side2 A29.out).mono ?_); (case side1 => repeat (first | exact (Kd.C_below HR0.out HB.out) | (with_reducible first | refine zCa ?_ _ | refine zCn ?_ _ | refine zCd ?_))); (case side2 => exact HC0.out); rintro e w34 ⟨v449, rfl, ho0, hb⟩; refine ⟨_, rfl, ?_⟩; have n0_ := Aside0.mk (Kd.R_below (by (with_reducible repeat (first | apply zRa | apply zRn | apply zRd)); first | exact HO_3.out | (subst_vars; exact HO_3.out)) hb); have n1_ := Aside0.mk (Kd.R_below (by (with_reducible repeat (first | apply zRa | apply zRn | apply zRd)); first | exact HO_4.out | (subst_vars; exact HO_4.out)) hb); have n2_ := Aside0.mk (Kd.R_elder' (by (with_reducible repeat (first | apply zRa | apply zRn | apply zRd)); first | exact HO_6.out | (subst_vars; exact HO_6.out)) (Kd.R_base ho0) hb); have n3_ := Aside0.mk (Kd.R_below (by (with_reducible repeat (first | apply zRa | apply zRn | apply zRd)); first | exact HO_7.out | (subst_vars; exact HO_7.out)) hb); have n4_ := Aside0.mk (Kd.R_below (by (with_reducible repeat (first | apply zRa | apply zRn | apply zRd)); first | exact HO_8.out | (subst_vars; exact HO_8.out)) hb); have n5_ := Aside0.mk (Kd.R_lower (Kd.R_new' ho0 (Kd.R_lt (by (with_reducible repeat (first | apply zRa | apply zRn | apply zRd)); first | exact HO_6.out | (subst_vars; exact HO_6.out)))) (below_size (by repeat (first | (with_reducible first | exact HB.out | apply zBa | apply zBn | apply zBd) | exact HB.out)))); have n6_ := Aside0.mk (below_step (by repeat (first | (with_reducible first | exact HB.out | apply zBa | apply zBn | apply zBd) | exact HB.out)) hb); clear HO_3; clear HO_4; clear HO_6; clear HO_7; clear HO_8; clear HB; have HO_3 := n0_; have HO_4 := n1_; have HO_6 := n2_; have HO_7 := n3_; have HO_8 := n4_; have HO450 := n5_; have HB := n6_; clear n0_ n1_ n2_ n3_ n4_ n5_ n6_; (try clear hb); (try clear hb2); (try clear hk); (try clear hi); (try clear ho0); obtain ⟨Ao35, co35, eo35⟩ := Kd.R_slice HO450.out; subst eo35) | ((with_reducible refine gate_callee (f := 36) rfl ?_); refine goesL_ (some 52) rfl rfl Try.func36 (by kernel_rfl) rfl #[.slice Ao12 t436.length co12, .slice Ao35 t448.length co35] rfl (by (try simp only [List.map_toArray, List.map_cons, List.map_nil]); first | done | rfl | (simp only [List.length_drop, List.length_take]; rfl)) ?_; (with_reducible refine (laws_eqByteS.calls kj6 _ _ t436 _ _ t448 true _ ?side1 ?side2 ?side3 ?side4 A30.out).mono ?_); (case side1 => repeat (first | exact (Kd.R_reads' HO_6.out).2.2 | (with_reducible first | refine zCa ?_ _ | refine zCn ?_ _ | refine zCd ?_))); (case side2 => exact (Kd.R_reads' HO_6.out).2.1); (case side3 => repeat (first | exact (Kd.R_reads' HO450.out).2.2 | (with_reducible first | refine zCa ?_ _ | refine zCn ?_ _ | refine zCd ?_))); (case side4 => exact (Kd.R_reads' HO450.out).2.1); rintro e w' ⟨rfl, ⟨nd, rfl⟩⟩; refine ⟨_, rfl, ?_⟩) | ((with_reducible refine gate_callee (f := 37) rfl ?_); refine goesL_ (some 56) rfl rfl Try.func37 (by kernel_rfl) rfl #[.slice Ao12 t436.length co12, .int .i64 1] rfl (by (try simp only [List.map_toArray, List.map_cons, List.map_nil]); first | done | rfl | (simp only [List.length_drop, List.length_take]; rfl)) ?_; (with_reducible refine (laws_markByteS.calls kj6 (fun k_ => some k_ = (.slice Ao12 t436.length co12 : Value).ownBlock) (.slice Ao12 t436.length co12) t436 1 t452 t453 w _ ?side1 ?side2 A32.out).mono ?_); (case side1 => repeat (first | (with_reducible first | exact HB.out | apply zBa | apply zBn | apply zBd) | exact HB.out)); (case side2 => exact Kd.R_tight rfl HO_6.out); rintro e w36 ⟨rfl, hy0, hb, hkp⟩; refine ⟨_, rfl, ?_⟩; have n0_ := Aside0.mk (Kd.R_mono (ok' := fun k_ => some k_ ≠ (v434 : Value).ownBlock ∧ some k_ ≠ (v442 : Value).ownBlock ∧ some k_ ≠ (v444 : Value).ownBlock) (Kd.R_keptB ((Kd.R_apart' HO_3.out (Kd.R_typed HO_6.out) (by decide))) hkp (fun k_ hk_ hs_ => (hk_.2) hs_)) (fun k_ hk_ => ⟨hk_.1.1.1, hk_.1.1.2.1, hk_.1.1.2.2⟩)); have n1_ := Aside0.mk (Kd.R_mono (ok' := fun k_ => some k_ ≠ (v432 : Value).ownBlock ∧ some k_ ≠ (v442 : Value).ownBlock ∧ some k_ ≠ (v444 : Value).ownBlock) (Kd.R_keptB ((Kd.R_apart' HO_4.out (Kd.R_typed HO_6.out) (by decide))) hkp (fun k_ hk_ hs_ => (hk_.2) hs_)) (fun k_ hk_ => ⟨hk_.1.1.1, hk_.1.1.2.1, hk_.1.1.2.2⟩)); have n2_ := Aside0.mk (Kd.R_reok rfl hy0 (fun k_ e_ => HO_6.out.1 k_ e_)); have n3_ := Aside0.mk (Kd.R_mono (ok' := fun k_ => some k_ ≠ (v432 : Value).ownBlock ∧ some k_ ≠ (v434 : Value).ownBlock ∧ some k_ ≠ (v444 : Value).ownBlock) (Kd.R_keptB ((Kd.R_apart' HO_7.out (Kd.R_typed HO_6.out) (by decide))) hkp (fun k_ hk_ hs_ => (hk_.2) hs_)) (fun k_ hk_ => ⟨hk_.1.1.1, hk_.1.1.2.1, hk_.1.1.2.2⟩)); have n4_ := Aside0.mk (Kd.R_mono (ok' := fun k_ => some k_ ≠ (v432 : Value).ownBlock ∧ some k_ ≠ (v434 : Value).ownBlock ∧ some k_ ≠ (v442 : Value).ownBlock) (Kd.R_keptB ((Kd.R_apart' HO_8.out (Kd.R_typed HO_6.out) (by decide))) hkp (fun k_ hk_ hs_ => (hk_.2) hs_)) (fun k_ hk_ => ⟨hk_.1.1.1, hk_.1.1.2.1, hk_.1.1.2.2⟩)); have n5_ := Aside0.mk (Kd.R_mono (ok' := fun k_ => some k_ ≠ (.slice Ao12 t436.length co12 : Value).ownBlock) (Kd.R_keptB (HO450.out) hkp (fun k_ hk_ hs_ => (hk_.2) hs_)) (fun k_ hk_ => hk_.1.2)); have n6_ := Aside0.mk (hb); clear HO_3; clear HO_4; clear HO_6; clear HO_7; clear HO_8; clear HO450; clear HB; have HO_3 := n0_; have HO_4 := n1_; have HO_6 := n2_; have HO_7 := n3_; have HO_8 := n4_; have HO450 := n5_; have HB := n6_; clear n0_ n1_ n2_ n3_ n4_ n5_ n6_; (try clear hb); (try clear hkp); (try clear hy0)))
   (try simp only [Act.put, List.setIfInBounds_toArray, List.set_cons_zero, List.set_cons_succ])
   go_cut [75] (fun v75 wc => ∃ (kq : Nat) (x75_32 : Bool), v75 = .bool x75_32 ∧ Aside0 (laws_FnExactOpenAll.j1 kq l0 t429 t430 t431 t439 t440 x75_32 = some r) ∧ Aside0 (kq ≤ kj6) ∧ Aside0 (Kd.R (Kd.int .i64) 3 wc w.heap.size (fun k_ => some k_ ≠ (v434 : Value).ownBlock ∧ some k_ ≠ (v442 : Value).ownBlock ∧ some k_ ≠ (v444 : Value).ownBlock) v432 t429) ∧ Aside0 (Kd.R (Kd.int .i64) 3 wc w.heap.size (fun k_ => some k_ ≠ (v432 : Value).ownBlock ∧ some k_ ≠ (v442 : Value).ownBlock ∧ some k_ ≠ (v444 : Value).ownBlock) v434 t430) ∧ Aside0 (Kd.R (Kd.int .i64) 3 wc w.heap.size (fun k_ => some k_ ≠ (v432 : Value).ownBlock ∧ some k_ ≠ (v434 : Value).ownBlock ∧ some k_ ≠ (v444 : Value).ownBlock) v442 t439) ∧ Aside0 (Kd.R (Kd.int .i64) 3 wc w.heap.size (fun k_ => some k_ ≠ (v432 : Value).ownBlock ∧ some k_ ≠ (v434 : Value).ownBlock ∧ some k_ ≠ (v442 : Value).ownBlock) v444 t440) ∧ Aside0 (Below w.heap.size w wc))
   case first =>
    have H := HC33.out
    clear HC33
    by_cases c37 : t452 < 0
    case pos =>
     rw [if_pos c37] at H
     have c37b0 : decide (t452 < 0) = true := zE c37
     clear c37
     (first | rw [c37b0] | (simp only [i64_w, i32_w]; rw [c37b0]) | skip)
     have H' := Aside0.mk H
     clear H
     go_wp2
     go_meet
     case rel => exact ⟨_, (true), (by first | rfl | (simp; done) | (simp [*]; done)), H', ⟨by have := HJ6.out; first | omega | exact Nat.le_refl _⟩, ⟨by (with_reducible repeat (first | apply zRa | apply zRn | apply zRd)); first | exact HO_3.out | (subst_vars; exact HO_3.out)⟩, ⟨by (with_reducible repeat (first | apply zRa | apply zRn | apply zRd)); first | exact HO_4.out | (subst_vars; exact HO_4.out)⟩, ⟨by (with_reducible repeat (first | apply zRa | apply zRn | apply zRd)); first | exact HO_7.out | (subst_vars; exact HO_7.out)⟩, ⟨by (with_reducible repeat (first | apply zRa | apply zRn | apply zRd)); first | exact HO_8.out | (subst_vars; exact HO_8.out)⟩, ⟨by repeat (first | (with_reducible first | exact HB.out | apply zBa | apply zBn | apply zBd) | exact HB.out)⟩⟩
    rw [if_neg c37] at H
    have c37b0 : decide (t452 < 0) = false := decide_eq_false c37
    clear c37
    (first | rw [c37b0] | (simp only [i64_w, i32_w]; rw [c37b0]) | skip)
    replace H := Option.bind_eq_some_iff.mp H
    obtain ⟨t454, A380, H⟩ := H
    replace H : (if t454 = true then ((laws_eqIntS.f kj6 t440 t430).bind fun t455 => (if t455 = true then (laws_FnExactOpenAll.j1 kj6 l0 t429 t430 t431 t439 t440 (t441 != t431)) else (laws_FnExactOpenAll.j1 kj6 l0 t429 t430 t431 t439 t440 true))) else (laws_FnExactOpenAll.j1 kj6 l0 t429 t430 t431 t439 t440 true)) = some r := H
    have A38 := Aside0.mk A380
    clear A380
    by_cases c39 : t454 = true
    case neg =>
     replace c39 := Bool.eq_false_iff.mpr c39
     subst c39
     have H1 : (laws_FnExactOpenAll.j1 kj6 l0 t429 t430 t431 t439 t440 true) = some r := by rw [if_neg (show ¬ (false = true) by decide)] at H; exact H
     clear H
     have H := H1
     clear H1
     have H' := Aside0.mk H
     clear H
     obtain ⟨Ao50, co50, eo50⟩ := Kd.R_slice HO_7.out
     subst eo50
     obtain ⟨Ao51, co51, eo51⟩ := Kd.R_slice HO_3.out
     subst eo51
     go_wp2_with (first | (go_at_call 28; (with_reducible refine (laws_eqIntS.calls kj6 _ _ t439 _ _ t429 false _ ?side1 ?side2 ?side3 ?side4 A38.out).mono ?_); (case side1 => repeat (first | exact (Kd.R_reads' HO_7.out).2.2 | (with_reducible first | refine zCa ?_ _ | refine zCn ?_ _ | refine zCd ?_))); (case side2 => exact (Kd.R_reads' HO_7.out).2.1); (case side3 => repeat (first | exact (Kd.R_reads' HO_3.out).2.2 | (with_reducible first | refine zCa ?_ _ | refine zCn ?_ _ | refine zCd ?_))); (case side4 => exact (Kd.R_reads' HO_3.out).2.1); rintro e w' ⟨rfl, ⟨nd, rfl⟩⟩))
     go_meet
     case rel => exact ⟨_, (true), (by first | rfl | (simp; done) | (simp [*]; done)), H', ⟨by have := HJ6.out; first | omega | exact Nat.le_refl _⟩, ⟨by (with_reducible repeat (first | apply zRa | apply zRn | apply zRd)); first | exact HO_3.out | (subst_vars; exact HO_3.out)⟩, ⟨by (with_reducible repeat (first | apply zRa | apply zRn | apply zRd)); first | exact HO_4.out | (subst_vars; exact HO_4.out)⟩, ⟨by (with_reducible repeat (first | apply zRa | apply zRn | apply zRd)); first | exact HO_7.out | (subst_vars; exact HO_7.out)⟩, ⟨by (with_reducible repeat (first | apply zRa | apply zRn | apply zRd)); first | exact HO_8.out | (subst_vars; exact HO_8.out)⟩, ⟨by repeat (first | (with_reducible first | exact HB.out | apply zBa | apply zBn | apply zBd) | exact HB.out)⟩⟩
    subst c39
    have H1 : ((laws_eqIntS.f kj6 t440 t430).bind fun t455 => (if t455 = true then (laws_FnExactOpenAll.j1 kj6 l0 t429 t430 t431 t439 t440 (t441 != t431)) else (laws_FnExactOpenAll.j1 kj6 l0 t429 t430 t431 t439 t440 true))) = some r := by rw [if_pos rfl] at H; exact H
    clear H
    have H := H1
    clear H1
    replace H := Option.bind_eq_some_iff.mp H
    obtain ⟨t455, A400, H⟩ := H
    replace H : (if t455 = true then (laws_FnExactOpenAll.j1 kj6 l0 t429 t430 t431 t439 t440 (t441 != t431)) else (laws_FnExactOpenAll.j1 kj6 l0 t429 t430 t431 t439 t440 true)) = some r := H
    have A40 := Aside0.mk A400
    clear A400
    by_cases c41 : t455 = true
    case pos =>
     subst c41
     have H1 : (laws_FnExactOpenAll.j1 kj6 l0 t429 t430 t431 t439 t440 (t441 != t431)) = some r := by rw [if_pos rfl] at H; exact H
     clear H
     have H := H1
     clear H1
     have H' := Aside0.mk H
     clear H
     obtain ⟨Ao42, co42, eo42⟩ := Kd.R_slice HO_7.out
     subst eo42
     obtain ⟨Ao43, co43, eo43⟩ := Kd.R_slice HO_3.out
     subst eo43
     go_wp2_with (first | (go_at_call 28; (with_reducible refine (laws_eqIntS.calls kj6 _ _ t439 _ _ t429 true _ ?side1 ?side2 ?side3 ?side4 A38.out).mono ?_); (case side1 => repeat (first | exact (Kd.R_reads' HO_7.out).2.2 | (with_reducible first | refine zCa ?_ _ | refine zCn ?_ _ | refine zCd ?_))); (case side2 => exact (Kd.R_reads' HO_7.out).2.1); (case side3 => repeat (first | exact (Kd.R_reads' HO_3.out).2.2 | (with_reducible first | refine zCa ?_ _ | refine zCn ?_ _ | refine zCd ?_))); (case side4 => exact (Kd.R_reads' HO_3.out).2.1); rintro e w' ⟨rfl, ⟨nd, rfl⟩⟩; obtain ⟨Ao44, co44, eo44⟩ := Kd.R_slice HO_8.out; subst eo44; obtain ⟨Ao45, co45, eo45⟩ := Kd.R_slice HO_4.out; subst eo45) | (go_at_call 28; (with_reducible refine (laws_eqIntS.calls kj6 _ _ t440 _ _ t430 true _ ?side1 ?side2 ?side3 ?side4 A40.out).mono ?_); (case side1 => repeat (first | exact (Kd.R_reads' HO_8.out).2.2 | (with_reducible first | refine zCa ?_ _ | refine zCn ?_ _ | refine zCd ?_))); (case side2 => exact (Kd.R_reads' HO_8.out).2.1); (case side3 => repeat (first | exact (Kd.R_reads' HO_4.out).2.2 | (with_reducible first | refine zCa ?_ _ | refine zCn ?_ _ | refine zCd ?_))); (case side4 => exact (Kd.R_reads' HO_4.out).2.1); rintro e w' ⟨rfl, ⟨nd, rfl⟩⟩))
     go_meet
     case rel => exact ⟨_, ((t441 != t431)), (by first | rfl | (simp; done) | (simp [*]; done)), H', ⟨by have := HJ6.out; first | omega | exact Nat.le_refl _⟩, ⟨by (with_reducible repeat (first | apply zRa | apply zRn | apply zRd)); first | exact HO_3.out | (subst_vars; exact HO_3.out)⟩, ⟨by (with_reducible repeat (first | apply zRa | apply zRn | apply zRd)); first | exact HO_4.out | (subst_vars; exact HO_4.out)⟩, ⟨by (with_reducible repeat (first | apply zRa | apply zRn | apply zRd)); first | exact HO_7.out | (subst_vars; exact HO_7.out)⟩, ⟨by (with_reducible repeat (first | apply zRa | apply zRn | apply zRd)); first | exact HO_8.out | (subst_vars; exact HO_8.out)⟩, ⟨by repeat (first | (with_reducible first | exact HB.out | apply zBa | apply zBn | apply zBd) | exact HB.out)⟩⟩
    replace c41 := Bool.eq_false_iff.mpr c41
    subst c41
    have H1 : (laws_FnExactOpenAll.j1 kj6 l0 t429 t430 t431 t439 t440 true) = some r := by rw [if_neg (show ¬ (false = true) by decide)] at H; exact H
    clear H
    have H := H1
    clear H1
    have H' := Aside0.mk H
    clear H
    obtain ⟨Ao46, co46, eo46⟩ := Kd.R_slice HO_7.out
    subst eo46
    obtain ⟨Ao47, co47, eo47⟩ := Kd.R_slice HO_3.out
    subst eo47
    go_wp2_with (first | (go_at_call 28; (with_reducible refine (laws_eqIntS.calls kj6 _ _ t439 _ _ t429 true _ ?side1 ?side2 ?side3 ?side4 A38.out).mono ?_); (case side1 => repeat (first | exact (Kd.R_reads' HO_7.out).2.2 | (with_reducible first | refine zCa ?_ _ | refine zCn ?_ _ | refine zCd ?_))); (case side2 => exact (Kd.R_reads' HO_7.out).2.1); (case side3 => repeat (first | exact (Kd.R_reads' HO_3.out).2.2 | (with_reducible first | refine zCa ?_ _ | refine zCn ?_ _ | refine zCd ?_))); (case side4 => exact (Kd.R_reads' HO_3.out).2.1); rintro e w' ⟨rfl, ⟨nd, rfl⟩⟩; obtain ⟨Ao48, co48, eo48⟩ := Kd.R_slice HO_8.out; subst eo48; obtain ⟨Ao49, co49, eo49⟩ := Kd.R_slice HO_4.out; subst eo49) | (go_at_call 28; (with_reducible refine (laws_eqIntS.calls kj6 _ _ t440 _ _ t430 false _ ?side1 ?side2 ?side3 ?side4 A40.out).mono ?_); (case side1 => repeat (first | exact (Kd.R_reads' HO_8.out).2.2 | (with_reducible first | refine zCa ?_ _ | refine zCn ?_ _ | refine zCd ?_))); (case side2 => exact (Kd.R_reads' HO_8.out).2.1); (case side3 => repeat (first | exact (Kd.R_reads' HO_4.out).2.2 | (with_reducible first | refine zCa ?_ _ | refine zCn ?_ _ | refine zCd ?_))); (case side4 => exact (Kd.R_reads' HO_4.out).2.1); rintro e w' ⟨rfl, ⟨nd, rfl⟩⟩))
    go_meet
    case rel => exact ⟨_, (true), (by first | rfl | (simp; done) | (simp [*]; done)), H', ⟨by have := HJ6.out; first | omega | exact Nat.le_refl _⟩, ⟨by (with_reducible repeat (first | apply zRa | apply zRn | apply zRd)); first | exact HO_3.out | (subst_vars; exact HO_3.out)⟩, ⟨by (with_reducible repeat (first | apply zRa | apply zRn | apply zRd)); first | exact HO_4.out | (subst_vars; exact HO_4.out)⟩, ⟨by (with_reducible repeat (first | apply zRa | apply zRn | apply zRd)); first | exact HO_7.out | (subst_vars; exact HO_7.out)⟩, ⟨by (with_reducible repeat (first | apply zRa | apply zRn | apply zRd)); first | exact HO_8.out | (subst_vars; exact HO_8.out)⟩, ⟨by repeat (first | (with_reducible first | exact HB.out | apply zBa | apply zBn | apply zBd) | exact HB.out)⟩⟩
   case rest =>
    clear HC33
    try clear c1
    try clear c2
    try clear c2b0
    try clear c2b1
    try clear p2
    try clear c3
    try clear c4
    try clear c5
    try clear c14
    try clear c15
    try clear c17
    try clear c28
    try clear c31
    try clear c36
    try clear c37
    try clear c37b0
    try clear c39
    try clear c41
    try clear c44
    try clear c46
    try clear c50
    try clear p2
    obtain ⟨kq, x75_32, rfl, HA, HJ32, HO_3, HO_4, HO_7, HO_8, HB⟩ := hcut
    cases kq with
    | zero => exact absurd HA.out (by simp [laws_FnExactOpenAll.j1])
    | succ kj32 =>
     have H := HA.out
     clear HA
     simp only [laws_FnExactOpenAll.j1] at H
     by_cases c52 : x75_32 = true
     case pos =>
      subst c52
      have H1 : (some false) = some r := by rw [if_pos rfl] at H; exact H
      clear H
      have H := H1
      clear H1
      exact absurd (Option.some.inj H) (by rw [hr_]; decide)
     replace c52 := Bool.eq_false_iff.mpr c52
     subst c52
     have H1 : ((laws_markIntS.f kj32 t439 1).bind fun bt456 => ((laws_markIntS.f kj32 t440 bt456.1).bind fun bt458 => ((laws_heldIntS.f kj32 bt456.2 1).bind fun t460 => (if t460 < 0 then (some false) else ((laws_heldIntS.f kj32 bt458.2 t460).bind fun t461 => (if t461 < 0 then (some false) else (if t461 = bt458.1 then ((laws_toByteS.f kj32 l0).bind fun t462 => ((impl_OpenAll.f kj32 t462).bind fun bt465 => ((laws_eqIntS.f kj32 bt465.1 t429).bind fun t472 => (if t472 = true then ((laws_eqIntS.f kj32 bt465.2.1 t430).bind fun t473 => (if t473 = true then (laws_FnExactOpenAll.j2 kj32 bt456.2 bt458.2 bt458.1 (bt465.2.2 != t431)) else (laws_FnExactOpenAll.j2 kj32 bt456.2 bt458.2 bt458.1 true))) else (laws_FnExactOpenAll.j2 kj32 bt456.2 bt458.2 bt458.1 true))))) else (some false)))))))) = some r := by rw [if_neg (show ¬ (false = true) by decide)] at H; exact H
     clear H
     have H := H1
     clear H1
     replace H := Option.bind_eq_some_iff.mp H
     obtain ⟨⟨t456, t457⟩, A530, H⟩ := H
     replace H : ((laws_markIntS.f kj32 t440 t456).bind fun bt458 => ((laws_heldIntS.f kj32 t457 1).bind fun t460 => (if t460 < 0 then (some false) else ((laws_heldIntS.f kj32 bt458.2 t460).bind fun t461 => (if t461 < 0 then (some false) else (if t461 = bt458.1 then ((laws_toByteS.f kj32 l0).bind fun t462 => ((impl_OpenAll.f kj32 t462).bind fun bt465 => ((laws_eqIntS.f kj32 bt465.1 t429).bind fun t472 => (if t472 = true then ((laws_eqIntS.f kj32 bt465.2.1 t430).bind fun t473 => (if t473 = true then (laws_FnExactOpenAll.j2 kj32 t457 bt458.2 bt458.1 (bt465.2.2 != t431)) else (laws_FnExactOpenAll.j2 kj32 t457 bt458.2 bt458.1 true))) else (laws_FnExactOpenAll.j2 kj32 t457 bt458.2 bt458.1 true))))) else (some false))))))) = some r := H
     have A53 := Aside0.mk A530
     clear A530
     replace H := Option.bind_eq_some_iff.mp H
     obtain ⟨⟨t458, t459⟩, A540, H⟩ := H
     replace H : ((laws_heldIntS.f kj32 t457 1).bind fun t460 => (if t460 < 0 then (some false) else ((laws_heldIntS.f kj32 t459 t460).bind fun t461 => (if t461 < 0 then (some false) else (if t461 = t458 then ((laws_toByteS.f kj32 l0).bind fun t462 => ((impl_OpenAll.f kj32 t462).bind fun bt465 => ((laws_eqIntS.f kj32 bt465.1 t429).bind fun t472 => (if t472 = true then ((laws_eqIntS.f kj32 bt465.2.1 t430).bind fun t473 => (if t473 = true then (laws_FnExactOpenAll.j2 kj32 t457 t459 t458 (bt465.2.2 != t431)) else (laws_FnExactOpenAll.j2 kj32 t457 t459 t458 true))) else (laws_FnExactOpenAll.j2 kj32 t457 t459 t458 true))))) else (some false)))))) = some r := H
     have A54 := Aside0.mk A540
     clear A540
     replace H := Option.bind_eq_some_iff.mp H
     obtain ⟨t460, A550, H⟩ := H
     replace H : (if t460 < 0 then (some false) else ((laws_heldIntS.f kj32 t459 t460).bind fun t461 => (if t461 < 0 then (some false) else (if t461 = t458 then ((laws_toByteS.f kj32 l0).bind fun t462 => ((impl_OpenAll.f kj32 t462).bind fun bt465 => ((laws_eqIntS.f kj32 bt465.1 t429).bind fun t472 => (if t472 = true then ((laws_eqIntS.f kj32 bt465.2.1 t430).bind fun t473 => (if t473 = true then (laws_FnExactOpenAll.j2 kj32 t457 t459 t458 (bt465.2.2 != t431)) else (laws_FnExactOpenAll.j2 kj32 t457 t459 t458 true))) else (laws_FnExactOpenAll.j2 kj32 t457 t459 t458 true))))) else (some false))))) = some r := H
     have A55 := Aside0.mk A550
     clear A550
     by_cases c56 : t460 < 0
     case pos =>
      rw [if_pos c56] at H
      have c56b0 : decide (t460 < 0) = true := zE c56
      clear c56
      exact absurd (Option.some.inj H) (by rw [hr_]; decide)
     rw [if_neg c56] at H
     have c56b0 : decide (t460 < 0) = false := decide_eq_false c56
     clear c56
     replace H := Option.bind_eq_some_iff.mp H
     obtain ⟨t461, A570, H⟩ := H
     replace H : (if t461 < 0 then (some false) else (if t461 = t458 then ((laws_toByteS.f kj32 l0).bind fun t462 => ((impl_OpenAll.f kj32 t462).bind fun bt465 => ((laws_eqIntS.f kj32 bt465.1 t429).bind fun t472 => (if t472 = true then ((laws_eqIntS.f kj32 bt465.2.1 t430).bind fun t473 => (if t473 = true then (laws_FnExactOpenAll.j2 kj32 t457 t459 t458 (bt465.2.2 != t431)) else (laws_FnExactOpenAll.j2 kj32 t457 t459 t458 true))) else (laws_FnExactOpenAll.j2 kj32 t457 t459 t458 true))))) else (some false))) = some r := H
     have A57 := Aside0.mk A570
     clear A570
     by_cases c58 : t461 < 0
     case pos =>
      rw [if_pos c58] at H
      have c58b0 : decide (t461 < 0) = true := zE c58
      clear c58
      exact absurd (Option.some.inj H) (by rw [hr_]; decide)
     rw [if_neg c58] at H
     have c58b0 : decide (t461 < 0) = false := decide_eq_false c58
     clear c58
     by_cases c59 : t461 = t458
     case neg =>
      rw [if_neg c59] at H
      have c59b0 : (t461 == t458) = false := beq_eq_false_iff_ne.mpr c59
      have c59b1 : (t461 != t458) = true := bne_iff_ne.mpr c59
      exact absurd (Option.some.inj H) (by rw [hr_]; decide)
     rw [if_pos c59] at H
     have c59b0 : (t461 == t458) = true := beq_iff_eq.mpr c59
     have c59b1 : (t461 != t458) = false := bne_eq_false_iff_eq.mpr c59
     clear c59
     replace H := Option.bind_eq_some_iff.mp H
     obtain ⟨t462, A600, H⟩ := H
     replace H : ((impl_OpenAll.f kj32 t462).bind fun bt465 => ((laws_eqIntS.f kj32 bt465.1 t429).bind fun t472 => (if t472 = true then ((laws_eqIntS.f kj32 bt465.2.1 t430).bind fun t473 => (if t473 = true then (laws_FnExactOpenAll.j2 kj32 t457 t459 t458 (bt465.2.2 != t431)) else (laws_FnExactOpenAll.j2 kj32 t457 t459 t458 true))) else (laws_FnExactOpenAll.j2 kj32 t457 t459 t458 true)))) = some r := H
     have A60 := Aside0.mk A600
     clear A600
     replace H := Option.bind_eq_some_iff.mp H
     obtain ⟨⟨t465, t466, t467⟩, A610, H⟩ := H
     replace H : ((laws_eqIntS.f kj32 t465 t429).bind fun t472 => (if t472 = true then ((laws_eqIntS.f kj32 t466 t430).bind fun t473 => (if t473 = true then (laws_FnExactOpenAll.j2 kj32 t457 t459 t458 (t467 != t431)) else (laws_FnExactOpenAll.j2 kj32 t457 t459 t458 true))) else (laws_FnExactOpenAll.j2 kj32 t457 t459 t458 true))) = some r := H
     have A61 := Aside0.mk A610
     clear A610
     have HC62 := Aside0.mk H
     clear H
     obtain ⟨Ao63, co63, eo63⟩ := Kd.R_slice HO_7.out
     subst eo63
     go_upto_region 27 with (first | ((with_reducible refine gate_callee (f := 29) rfl ?_); refine goesL_ (some 78) rfl rfl Try.func29 (by kernel_rfl) rfl #[.slice Ao63 t439.length co63, .int .i64 1] rfl (by (try simp only [List.map_toArray, List.map_cons, List.map_nil]); first | done | rfl | (simp only [List.length_drop, List.length_take]; rfl)) ?_; (with_reducible refine (laws_markIntS.calls kj32 (fun k_ => some k_ = (.slice Ao63 t439.length co63 : Value).ownBlock) (.slice Ao63 t439.length co63) t439 1 t456 t457 w _ ?side1 ?side2 A53.out).mono ?_); (case side1 => repeat (first | (with_reducible first | exact HB.out | apply zBa | apply zBn | apply zBd) | exact HB.out)); (case side2 => exact Kd.R_tight rfl HO_7.out); rintro e w64 ⟨rfl, hy0, hb, hkp⟩; refine ⟨_, rfl, ?_⟩; have n0_ := Aside0.mk (Kd.R_mono (ok' := fun k_ => some k_ ≠ (v434 : Value).ownBlock ∧ some k_ ≠ (.slice Ao63 t439.length co63 : Value).ownBlock ∧ some k_ ≠ (v444 : Value).ownBlock) (Kd.R_keptB (HO_3.out) hkp (fun k_ hk_ hs_ => (hk_.2.1) hs_)) (fun k_ hk_ => ⟨hk_.1.1, hk_.1.2.1, hk_.1.2.2⟩)); have n1_ := Aside0.mk (Kd.R_mono (ok' := fun k_ => some k_ ≠ (v432 : Value).ownBlock ∧ some k_ ≠ (.slice Ao63 t439.length co63 : Value).ownBlock ∧ some k_ ≠ (v444 : Value).ownBlock) (Kd.R_keptB (HO_4.out) hkp (fun k_ hk_ hs_ => (hk_.2.1) hs_)) (fun k_ hk_ => ⟨hk_.1.1, hk_.1.2.1, hk_.1.2.2⟩)); have n2_ := Aside0.mk (Kd.R_reok rfl hy0 (fun k_ e_ => HO_7.out.1 k_ e_)); have n3_ := Aside0.mk (Kd.R_mono (ok' := fun k_ => some k_ ≠ (v432 : Value).ownBlock ∧ some k_ ≠ (v434 : Value).ownBlock ∧ some k_ ≠ (.slice Ao63 t439.length co63 : Value).ownBlock) (Kd.R_keptB (HO_8.out) hkp (fun k_ hk_ hs_ => (hk_.2.2) hs_)) (fun k_ hk_ => ⟨hk_.1.1, hk_.1.2.1, hk_.1.2.2⟩)); have n4_ := Aside0.mk (hb); clear HO_3; clear HO_4; clear HO_7; clear HO_8; clear HB; have HO_3 := n0_; have HO_4 := n1_; have HO_7 := n2_; have HO_8 := n3_; have HB := n4_; clear n0_ n1_ n2_ n3_ n4_; (try clear hb); (try clear hkp); (try clear hy0); obtain ⟨Ao65, co65, eo65⟩ := Kd.R_slice HO_8.out; subst eo65) | ((with_reducible refine gate_callee (f := 29) rfl ?_); refine goesL_ (some 81) rfl rfl Try.func29 (by kernel_rfl) rfl #[.slice Ao65 t440.length co65, .int .i64 t456] rfl (by (try simp only [List.map_toArray, List.map_cons, List.map_nil]); first | done | rfl | (simp only [List.length_drop, List.length_take]; rfl)) ?_; (with_reducible refine (laws_markIntS.calls kj32 (fun k_ => some k_ = (.slice Ao65 t440.length co65 : Value).ownBlock) (.slice Ao65 t440.length co65) t440 t456 t458 t459 w _ ?side1 ?side2 A54.out).mono ?_); (case side1 => repeat (first | (with_reducible first | exact HB.out | apply zBa | apply zBn | apply zBd) | exact HB.out)); (case side2 => exact Kd.R_tight rfl HO_8.out); rintro e w66 ⟨rfl, hy0, hb, hkp⟩; refine ⟨_, rfl, ?_⟩; have n0_ := Aside0.mk (Kd.R_mono (ok' := fun k_ => some k_ ≠ (v434 : Value).ownBlock ∧ some k_ ≠ (.slice Ao63 t439.length co63 : Value).ownBlock ∧ some k_ ≠ (.slice Ao65 t440.length co65 : Value).ownBlock) (Kd.R_keptB (HO_3.out) hkp (fun k_ hk_ hs_ => (hk_.2.2) hs_)) (fun k_ hk_ => ⟨hk_.1.1, hk_.1.2.1, hk_.1.2.2⟩)); have n1_ := Aside0.mk (Kd.R_mono (ok' := fun k_ => some k_ ≠ (v432 : Value).ownBlock ∧ some k_ ≠ (.slice Ao63 t439.length co63 : Value).ownBlock ∧ some k_ ≠ (.slice Ao65 t440.length co65 : Value).ownBlock) (Kd.R_keptB (HO_4.out) hkp (fun k_ hk_ hs_ => (hk_.2.2) hs_)) (fun k_ hk_ => ⟨hk_.1.1, hk_.1.2.1, hk_.1.2.2⟩)); have n2_ := Aside0.mk (Kd.R_mono (ok' := fun k_ => some k_ ≠ (v432 : Value).ownBlock ∧ some k_ ≠ (v434 : Value).ownBlock ∧ some k_ ≠ (.slice Ao65 t440.length co65 : Value).ownBlock) (Kd.R_keptB (HO_7.out) hkp (fun k_ hk_ hs_ => (hk_.2.2) hs_)) (fun k_ hk_ => ⟨hk_.1.1, hk_.1.2.1, hk_.1.2.2⟩)); have n3_ := Aside0.mk (Kd.R_reok rfl hy0 (fun k_ e_ => HO_8.out.1 k_ e_)); have n4_ := Aside0.mk (hb); clear HO_3; clear HO_4; clear HO_7; clear HO_8; clear HB; have HO_3 := n0_; have HO_4 := n1_; have HO_7 := n2_; have HO_8 := n3_; have HB := n4_; clear n0_ n1_ n2_ n3_ n4_; (try clear hb); (try clear hkp); (try clear hy0)) | ((with_reducible refine gate_callee (f := 30) rfl ?_); refine goesL_ (some 84) rfl rfl Try.func30 (by kernel_rfl) rfl #[.slice Ao63 t457.length co63, .int .i64 1] rfl (by (try simp only [List.map_toArray, List.map_cons, List.map_nil]); first | done | (rw [show t457.length = t439.length from (Kd.R_reads' HO_7.out).1.symm] <;> rfl) | rfl | (simp only [List.length_drop, List.length_take]; rfl)) ?_; (with_reducible refine (laws_heldIntS.calls kj32 _ _ t457 1 t460 _ ?side1 ?side2 A55.out).mono ?_); (case side1 => repeat (first | exact (Kd.R_reads' HO_7.out).2.2 | (with_reducible first | refine zCa ?_ _ | refine zCn ?_ _ | refine zCd ?_))); (case side2 => rw [show t457.length = t439.length from (Kd.R_reads' HO_7.out).1.symm]; exact (Kd.R_reads' HO_7.out).2.1); rintro e w' ⟨rfl, ⟨nd, rfl⟩⟩; refine ⟨_, rfl, ?_⟩) | ((with_reducible refine gate_callee (f := 30) rfl ?_); refine goesL_ (some 89) rfl rfl Try.func30 (by kernel_rfl) rfl #[.slice Ao65 t459.length co65, .int .i64 t460] rfl (by (try simp only [List.map_toArray, List.map_cons, List.map_nil]); first | done | (rw [show t459.length = t440.length from (Kd.R_reads' HO_8.out).1.symm] <;> rfl) | rfl | (simp only [List.length_drop, List.length_take]; rfl)) ?_; (with_reducible refine (laws_heldIntS.calls kj32 _ _ t459 t460 t461 _ ?side1 ?side2 A57.out).mono ?_); (case side1 => repeat (first | exact (Kd.R_reads' HO_8.out).2.2 | (with_reducible first | refine zCa ?_ _ | refine zCn ?_ _ | refine zCd ?_))); (case side2 => rw [show t459.length = t440.length from (Kd.R_reads' HO_8.out).1.symm]; exact (Kd.R_reads' HO_8.out).2.1); rintro e w' ⟨rfl, ⟨nd, rfl⟩⟩; refine ⟨_, rfl, ?_⟩) | ((with_reducible refine gate_callee (f := 44) rfl ?_); refine goesL_ (some 97) rfl rfl Try.func44 (by kernel_rfl) rfl #[.slice A0 l0.length c0] rfl (by (try simp only [List.map_toArray, List.map_cons, List.map_nil]); first | done | rfl | (simp only [List.length_drop, List.length_take]; rfl)) ?_; (with_reducible refine (laws_toByteS.calls kj32 _ _ l0 t462 _ ?side1 ?side2 A60.out).mono ?_); (case side1 => repeat (first | exact (Kd.C_below HR0.out (by repeat (first | (with_reducible first | exact HB.out | apply zBa | apply zBn | apply zBd) | exact HB.out))) | (with_reducible first | refine zCa ?_ _ | refine zCn ?_ _ | refine zCd ?_))); (case side2 => exact HC0.out); rintro e w67 ⟨v463, rfl, ho0, hb⟩; refine ⟨_, rfl, ?_⟩; have n0_ := Aside0.mk (Kd.R_below (by (with_reducible repeat (first | apply zRa | apply zRn | apply zRd)); first | exact HO_3.out | (subst_vars; exact HO_3.out)) hb); have n1_ := Aside0.mk (Kd.R_below (by (with_reducible repeat (first | apply zRa | apply zRn | apply zRd)); first | exact HO_4.out | (subst_vars; exact HO_4.out)) hb); have n2_ := Aside0.mk (Kd.R_below (by (with_reducible repeat (first | apply zRa | apply zRn | apply zRd)); first | exact HO_7.out | (subst_vars; exact HO_7.out)) hb); have n3_ := Aside0.mk (Kd.R_below (by (with_reducible repeat (first | apply zRa | apply zRn | apply zRd)); first | exact HO_8.out | (subst_vars; exact HO_8.out)) hb); have n4_ := Aside0.mk (Kd.R_lower ho0 (below_size (by repeat (first | (with_reducible first | exact HB.out | apply zBa | apply zBn | apply zBd) | exact HB.out)))); have n5_ := Aside0.mk (below_step (by repeat (first | (with_reducible first | exact HB.out | apply zBa | apply zBn | apply zBd) | exact HB.out)) hb); clear HO_3; clear HO_4; clear HO_7; clear HO_8; clear HB; have HO_3 := n0_; have HO_4 := n1_; have HO_7 := n2_; have HO_8 := n3_; have HO464 := n4_; have HB := n5_; clear n0_ n1_ n2_ n3_ n4_ n5_; (try clear hb); (try clear hb2); (try clear hk); (try clear hi); (try clear ho0); obtain ⟨Ao68, co68, eo68⟩ := Kd.R_slice HO464.out; subst eo68) | ((with_reducible refine gate_callee (f := 46) rfl ?_); refine goesL_ (some 98) rfl rfl Try.func46 (by kernel_rfl) rfl #[.slice Ao68 t462.length co68] rfl (by (try simp only [List.map_toArray, List.map_cons, List.map_nil]); first | done | rfl | (simp only [List.length_drop, List.length_take]; rfl)) ?_; (with_reducible refine (impl_OpenAll.calls kj32 _ _ t462 t465 t466 t467 _ ?side1 ?side2 A61.out).mono ?_); (case side1 => repeat (first | exact (Kd.R_reads' HO464.out).2.2 | (with_reducible first | refine zCa ?_ _ | refine zCn ?_ _ | refine zCd ?_))); (case side2 => exact (Kd.R_reads' HO464.out).2.1); rintro e w69 ⟨v468, v470, rfl, ho0, ho1, hb⟩; refine ⟨_, rfl, ?_⟩; have n0_ := Aside0.mk (Kd.R_mono (Kd.R_told (Kd.R_told (Kd.R_old (by (with_reducible repeat (first | apply zRa | apply zRn | apply zRd)); first | exact HO_3.out | (subst_vars; exact HO_3.out)) hb) (Kd.R_base ho0)) (Kd.R_base ho1)) (fun _ h_ => h_.1)); have n1_ := Aside0.mk (Kd.R_mono (Kd.R_told (Kd.R_told (Kd.R_old (by (with_reducible repeat (first | apply zRa | apply zRn | apply zRd)); first | exact HO_4.out | (subst_vars; exact HO_4.out)) hb) (Kd.R_base ho0)) (Kd.R_base ho1)) (fun _ h_ => h_.1)); have n2_ := Aside0.mk (Kd.R_mono (Kd.R_told (Kd.R_told (Kd.R_old (by (with_reducible repeat (first | apply zRa | apply zRn | apply zRd)); first | exact HO_7.out | (subst_vars; exact HO_7.out)) hb) (Kd.R_base ho0)) (Kd.R_base ho1)) (fun _ h_ => h_.1)); have n3_ := Aside0.mk (Kd.R_mono (Kd.R_told (Kd.R_told (Kd.R_old (by (with_reducible repeat (first | apply zRa | apply zRn | apply zRd)); first | exact HO_8.out | (subst_vars; exact HO_8.out)) hb) (Kd.R_base ho0)) (Kd.R_base ho1)) (fun _ h_ => h_.1)); have n4_ := Aside0.mk (Kd.R_below (by (with_reducible repeat (first | apply zRa | apply zRn | apply zRd)); first | exact HO464.out | (subst_vars; exact HO464.out)) hb); have n5_ := Aside0.mk (Kd.R_lower (Kd.R_new' (Kd.R_new' (Kd.R_new' (Kd.R_new' ho0 (Kd.R_lt (by (with_reducible repeat (first | apply zRa | apply zRn | apply zRd)); first | exact HO_3.out | (subst_vars; exact HO_3.out)))) (Kd.R_lt (by (with_reducible repeat (first | apply zRa | apply zRn | apply zRd)); first | exact HO_4.out | (subst_vars; exact HO_4.out)))) (Kd.R_lt (by (with_reducible repeat (first | apply zRa | apply zRn | apply zRd)); first | exact HO_7.out | (subst_vars; exact HO_7.out)))) (Kd.R_lt (by (with_reducible repeat (first | apply zRa | apply zRn | apply zRd)); first | exact HO_8.out | (subst_vars; exact HO_8.out)))) (below_size (by repeat (first | (with_reducible first | exact HB.out | apply zBa | apply zBn | apply zBd) | exact HB.out)))); have n6_ := Aside0.mk (Kd.R_lower (Kd.R_new' (Kd.R_new' (Kd.R_new' (Kd.R_new' ho1 (Kd.R_lt (by (with_reducible repeat (first | apply zRa | apply zRn | apply zRd)); first | exact HO_3.out | (subst_vars; exact HO_3.out)))) (Kd.R_lt (by (with_reducible repeat (first | apply zRa | apply zRn | apply zRd)); first | exact HO_4.out | (subst_vars; exact HO_4.out)))) (Kd.R_lt (by (with_reducible repeat (first | apply zRa | apply zRn | apply zRd)); first | exact HO_7.out | (subst_vars; exact HO_7.out)))) (Kd.R_lt (by (with_reducible repeat (first | apply zRa | apply zRn | apply zRd)); first | exact HO_8.out | (subst_vars; exact HO_8.out)))) (below_size (by repeat (first | (with_reducible first | exact HB.out | apply zBa | apply zBn | apply zBd) | exact HB.out)))); have n7_ := Aside0.mk (below_step (by repeat (first | (with_reducible first | exact HB.out | apply zBa | apply zBn | apply zBd) | exact HB.out)) hb); clear HO_3; clear HO_4; clear HO_7; clear HO_8; clear HO464; clear HB; have HO_3 := n0_; have HO_4 := n1_; have HO_7 := n2_; have HO_8 := n3_; have HO464 := n4_; have HO469 := n5_; have HO471 := n6_; have HB := n7_; clear n0_ n1_ n2_ n3_ n4_ n5_ n6_ n7_; (try clear hb); (try clear hb2); (try clear hk); (try clear hi); (try clear ho0); (try clear ho1)))
     (try simp only [Act.put, List.setIfInBounds_toArray, List.set_cons_zero, List.set_cons_succ])
     go_cut [116] (fun v116 wc => ∃ (kq : Nat) (x116_61 : Bool), v116 = .bool x116_61 ∧ Aside0 (laws_FnExactOpenAll.j2 kq t457 t459 t458 x116_61 = some r) ∧ Aside0 (kq ≤ kj32) ∧ Aside0 (Kd.R (Kd.int .i64) 3 wc w.heap.size (fun k_ => some k_ ≠ ((.slice Ao65 t440.length co65) : Value).ownBlock) (.slice Ao63 t439.length co63) t457) ∧ Aside0 (Kd.R (Kd.int .i64) 3 wc w.heap.size (fun k_ => some k_ ≠ ((.slice Ao63 t439.length co63) : Value).ownBlock) (.slice Ao65 t440.length co65) t459) ∧ Aside0 (Below w.heap.size w wc))
     case first =>
      have H := HC62.out
      clear HC62
      replace H := Option.bind_eq_some_iff.mp H
      obtain ⟨t472, A700, H⟩ := H
      replace H : (if t472 = true then ((laws_eqIntS.f kj32 t466 t430).bind fun t473 => (if t473 = true then (laws_FnExactOpenAll.j2 kj32 t457 t459 t458 (t467 != t431)) else (laws_FnExactOpenAll.j2 kj32 t457 t459 t458 true))) else (laws_FnExactOpenAll.j2 kj32 t457 t459 t458 true)) = some r := H
      have A70 := Aside0.mk A700
      clear A700
      by_cases c71 : t472 = true
      case neg =>
       replace c71 := Bool.eq_false_iff.mpr c71
       subst c71
       have H1 : (laws_FnExactOpenAll.j2 kj32 t457 t459 t458 true) = some r := by rw [if_neg (show ¬ (false = true) by decide)] at H; exact H
       clear H
       have H := H1
       clear H1
       have H' := Aside0.mk H
       clear H
       obtain ⟨Ao82, co82, eo82⟩ := Kd.R_slice HO469.out
       subst eo82
       obtain ⟨Ao83, co83, eo83⟩ := Kd.R_slice HO_3.out
       subst eo83
       go_wp2_with (first | ((with_reducible refine gate_callee (f := 28) rfl ?_); refine goesL_ (some 104) rfl rfl Try.func28 (by kernel_rfl) rfl #[.slice Ao82 t465.length co82, .slice Ao83 t429.length co83] rfl (by (try simp only [List.map_toArray, List.map_cons, List.map_nil]); first | done | rfl | (simp only [List.length_drop, List.length_take]; rfl)) ?_; (with_reducible refine (laws_eqIntS.calls kj32 _ _ t465 _ _ t429 false _ ?side1 ?side2 ?side3 ?side4 A70.out).mono ?_); (case side1 => repeat (first | exact (Kd.R_reads' HO469.out).2.2 | (with_reducible first | refine zCa ?_ _ | refine zCn ?_ _ | refine zCd ?_))); (case side2 => exact (Kd.R_reads' HO469.out).2.1); (case side3 => repeat (first | exact (Kd.R_reads' HO_3.out).2.2 | (with_reducible first | refine zCa ?_ _ | refine zCn ?_ _ | refine zCd ?_))); (case side4 => exact (Kd.R_reads' HO_3.out).2.1); rintro e w' ⟨rfl, ⟨nd, rfl⟩⟩; refine ⟨_, rfl, ?_⟩))
       go_meet
       case rel => exact ⟨_, (true), (by first | rfl | (simp; done) | (simp [*]; done)), H', ⟨by have := HJ6.out; have := HJ32.out; first | omega | exact Nat.le_refl _⟩, ⟨by (with_reducible repeat (first | apply zRa | apply zRn | apply zRd)); first | exact Kd.R_mono HO_7.out (fun _ hk => hk.1.1.2.2) | (subst_vars; exact Kd.R_mono HO_7.out (fun _ hk => hk.1.1.2.2))⟩, ⟨by (with_reducible repeat (first | apply zRa | apply zRn | apply zRd)); first | exact Kd.R_mono HO_8.out (fun _ hk => hk.1.1.2.2) | (subst_vars; exact Kd.R_mono HO_8.out (fun _ hk => hk.1.1.2.2))⟩, ⟨by repeat (first | (with_reducible first | exact HB.out | apply zBa | apply zBn | apply zBd) | exact HB.out)⟩⟩
      subst c71
      have H1 : ((laws_eqIntS.f kj32 t466 t430).bind fun t473 => (if t473 = true then (laws_FnExactOpenAll.j2 kj32 t457 t459 t458 (t467 != t431)) else (laws_FnExactOpenAll.j2 kj32 t457 t459 t458 true))) = some r := by rw [if_pos rfl] at H; exact H
      clear H
      have H := H1
      clear H1
      replace H := Option.bind_eq_some_iff.mp H
      obtain ⟨t473, A720, H⟩ := H
      replace H : (if t473 = true then (laws_FnExactOpenAll.j2 kj32 t457 t459 t458 (t467 != t431)) else (laws_FnExactOpenAll.j2 kj32 t457 t459 t458 true)) = some r := H
      have A72 := Aside0.mk A720
      clear A720
      by_cases c73 : t473 = true
      case pos =>
       subst c73
       have H1 : (laws_FnExactOpenAll.j2 kj32 t457 t459 t458 (t467 != t431)) = some r := by rw [if_pos rfl] at H; exact H
       clear H
       have H := H1
       clear H1
       have H' := Aside0.mk H
       clear H
       obtain ⟨Ao74, co74, eo74⟩ := Kd.R_slice HO469.out
       subst eo74
       obtain ⟨Ao75, co75, eo75⟩ := Kd.R_slice HO_3.out
       subst eo75
       go_wp2_with (first | ((with_reducible refine gate_callee (f := 28) rfl ?_); refine goesL_ (some 104) rfl rfl Try.func28 (by kernel_rfl) rfl #[.slice Ao74 t465.length co74, .slice Ao75 t429.length co75] rfl (by (try simp only [List.map_toArray, List.map_cons, List.map_nil]); first | done | rfl | (simp only [List.length_drop, List.length_take]; rfl)) ?_; (with_reducible refine (laws_eqIntS.calls kj32 _ _ t465 _ _ t429 true _ ?side1 ?side2 ?side3 ?side4 A70.out).mono ?_); (case side1 => repeat (first | exact (Kd.R_reads' HO469.out).2.2 | (with_reducible first | refine zCa ?_ _ | refine zCn ?_ _ | refine zCd ?_))); (case side2 => exact (Kd.R_reads' HO469.out).2.1); (case side3 => repeat (first | exact (Kd.R_reads' HO_3.out).2.2 | (with_reducible first | refine zCa ?_ _ | refine zCn ?_ _ | refine zCd ?_))); (case side4 => exact (Kd.R_reads' HO_3.out).2.1); rintro e w' ⟨rfl, ⟨nd, rfl⟩⟩; refine ⟨_, rfl, ?_⟩; obtain ⟨Ao76, co76, eo76⟩ := Kd.R_slice HO471.out; subst eo76; obtain ⟨Ao77, co77, eo77⟩ := Kd.R_slice HO_4.out; subst eo77) | (go_at_call 28; (with_reducible refine (laws_eqIntS.calls kj32 _ _ t466 _ _ t430 true _ ?side1 ?side2 ?side3 ?side4 A72.out).mono ?_); (case side1 => repeat (first | exact (Kd.R_reads' HO471.out).2.2 | (with_reducible first | refine zCa ?_ _ | refine zCn ?_ _ | refine zCd ?_))); (case side2 => exact (Kd.R_reads' HO471.out).2.1); (case side3 => repeat (first | exact (Kd.R_reads' HO_4.out).2.2 | (with_reducible first | refine zCa ?_ _ | refine zCn ?_ _ | refine zCd ?_))); (case side4 => exact (Kd.R_reads' HO_4.out).2.1); rintro e w' ⟨rfl, ⟨nd, rfl⟩⟩))
       go_meet
       case rel => exact ⟨_, ((t467 != t431)), (by first | rfl | (simp; done) | (simp [*]; done)), H', ⟨by have := HJ6.out; have := HJ32.out; first | omega | exact Nat.le_refl _⟩, ⟨by (with_reducible repeat (first | apply zRa | apply zRn | apply zRd)); first | exact Kd.R_mono HO_7.out (fun _ hk => hk.1.1.2.2) | (subst_vars; exact Kd.R_mono HO_7.out (fun _ hk => hk.1.1.2.2))⟩, ⟨by (with_reducible repeat (first | apply zRa | apply zRn | apply zRd)); first | exact Kd.R_mono HO_8.out (fun _ hk => hk.1.1.2.2) | (subst_vars; exact Kd.R_mono HO_8.out (fun _ hk => hk.1.1.2.2))⟩, ⟨by repeat (first | (with_reducible first | exact HB.out | apply zBa | apply zBn | apply zBd) | exact HB.out)⟩⟩
      replace c73 := Bool.eq_false_iff.mpr c73
      subst c73
      have H1 : (laws_FnExactOpenAll.j2 kj32 t457 t459 t458 true) = some r := by rw [if_neg (show ¬ (false = true) by decide)] at H; exact H
      clear H
      have H := H1
      clear H1
      have H' := Aside0.mk H
      clear H
      obtain ⟨Ao78, co78, eo78⟩ := Kd.R_slice HO469.out
      subst eo78
      obtain ⟨Ao79, co79, eo79⟩ := Kd.R_slice HO_3.out
      subst eo79
      go_wp2_with (first | ((with_reducible refine gate_callee (f := 28) rfl ?_); refine goesL_ (some 104) rfl rfl Try.func28 (by kernel_rfl) rfl #[.slice Ao78 t465.length co78, .slice Ao79 t429.length co79] rfl (by (try simp only [List.map_toArray, List.map_cons, List.map_nil]); first | done | rfl | (simp only [List.length_drop, List.length_take]; rfl)) ?_; (with_reducible refine (laws_eqIntS.calls kj32 _ _ t465 _ _ t429 true _ ?side1 ?side2 ?side3 ?side4 A70.out).mono ?_); (case side1 => repeat (first | exact (Kd.R_reads' HO469.out).2.2 | (with_reducible first | refine zCa ?_ _ | refine zCn ?_ _ | refine zCd ?_))); (case side2 => exact (Kd.R_reads' HO469.out).2.1); (case side3 => repeat (first | exact (Kd.R_reads' HO_3.out).2.2 | (with_reducible first | refine zCa ?_ _ | refine zCn ?_ _ | refine zCd ?_))); (case side4 => exact (Kd.R_reads' HO_3.out).2.1); rintro e w' ⟨rfl, ⟨nd, rfl⟩⟩; refine ⟨_, rfl, ?_⟩; obtain ⟨Ao80, co80, eo80⟩ := Kd.R_slice HO471.out; subst eo80; obtain ⟨Ao81, co81, eo81⟩ := Kd.R_slice HO_4.out; subst eo81) | (go_at_call 28; (with_reducible refine (laws_eqIntS.calls kj32 _ _ t466 _ _ t430 false _ ?side1 ?side2 ?side3 ?side4 A72.out).mono ?_); (case side1 => repeat (first | exact (Kd.R_reads' HO471.out).2.2 | (with_reducible first | refine zCa ?_ _ | refine zCn ?_ _ | refine zCd ?_))); (case side2 => exact (Kd.R_reads' HO471.out).2.1); (case side3 => repeat (first | exact (Kd.R_reads' HO_4.out).2.2 | (with_reducible first | refine zCa ?_ _ | refine zCn ?_ _ | refine zCd ?_))); (case side4 => exact (Kd.R_reads' HO_4.out).2.1); rintro e w' ⟨rfl, ⟨nd, rfl⟩⟩))
      go_meet
      case rel => exact ⟨_, (true), (by first | rfl | (simp; done) | (simp [*]; done)), H', ⟨by have := HJ6.out; have := HJ32.out; first | omega | exact Nat.le_refl _⟩, ⟨by (with_reducible repeat (first | apply zRa | apply zRn | apply zRd)); first | exact Kd.R_mono HO_7.out (fun _ hk => hk.1.1.2.2) | (subst_vars; exact Kd.R_mono HO_7.out (fun _ hk => hk.1.1.2.2))⟩, ⟨by (with_reducible repeat (first | apply zRa | apply zRn | apply zRd)); first | exact Kd.R_mono HO_8.out (fun _ hk => hk.1.1.2.2) | (subst_vars; exact Kd.R_mono HO_8.out (fun _ hk => hk.1.1.2.2))⟩, ⟨by repeat (first | (with_reducible first | exact HB.out | apply zBa | apply zBn | apply zBd) | exact HB.out)⟩⟩
     case rest =>
      clear HC62
      try clear c1
      try clear c2
      try clear c2b0
      try clear c2b1
      try clear p2
      try clear c3
      try clear c4
      try clear c5
      try clear c7
      try clear c14
      try clear c15
      try clear c17
      try clear c28
      try clear c29
      try clear c30
      try clear c31
      try clear c36
      try clear c37
      try clear c37b0
      try clear c39
      try clear c41
      try clear c44
      try clear c46
      try clear c50
      try clear c52
      try clear c56
      try clear c56b0
      try clear c58
      try clear c58b0
      try clear c59
      try clear c59b0
      try clear c59b1
      try clear c71
      try clear c73
      try clear p2
      obtain ⟨kq, x116_61, rfl, HA, HJ61, HO_7, HO_8, HB⟩ := hcut
      have hl7_61 := (Kd.R_reads' HO_7.out).1
      rw [hl7_61] at HO_7
      (try simp only [hl7_61])
      (try simp only [hl7_61] at HO_8)
      have hl8_61 := (Kd.R_reads' HO_8.out).1
      rw [hl8_61] at HO_8
      (try simp only [hl8_61])
      (try simp only [hl8_61] at HO_7)
      cases kq with
      | zero => exact absurd HA.out (by simp [laws_FnExactOpenAll.j2])
      | succ kj61 =>
       have H := HA.out
       clear HA
       simp only [laws_FnExactOpenAll.j2] at H
       by_cases c84 : x116_61 = true
       case pos =>
        subst c84
        have H1 : (some false) = some r := by rw [if_pos rfl] at H; exact H
        clear H
        have H := H1
        clear H1
        exact absurd (Option.some.inj H) (by rw [hr_]; decide)
       replace c84 := Bool.eq_false_iff.mpr c84
       subst c84
       have H1 : ((laws_heldIntS.f kj61 t457 1).bind fun t474 => (if t474 < 0 then (some false) else ((laws_heldIntS.f kj61 t459 t474).bind fun t475 => (if t475 < 0 then (some false) else (if t475 = t458 then (some true) else (some false)))))) = some r := by rw [if_neg (show ¬ (false = true) by decide)] at H; exact H
       clear H
       have H := H1
       clear H1
       replace H := Option.bind_eq_some_iff.mp H
       obtain ⟨t474, A850, H⟩ := H
       replace H : (if t474 < 0 then (some false) else ((laws_heldIntS.f kj61 t459 t474).bind fun t475 => (if t475 < 0 then (some false) else (if t475 = t458 then (some true) else (some false))))) = some r := H
       have A85 := Aside0.mk A850
       clear A850
       by_cases c86 : t474 < 0
       case pos =>
        rw [if_pos c86] at H
        have c86b0 : decide (t474 < 0) = true := zE c86
        (try (have c86w_hl7_61 := c86b0; simp only [hl7_61] at c86w_hl7_61))
        (try (have c86w_hl8_61 := c86b0; simp only [hl8_61] at c86w_hl8_61))
        clear c86
        exact absurd (Option.some.inj H) (by rw [hr_]; decide)
       rw [if_neg c86] at H
       have c86b0 : decide (t474 < 0) = false := decide_eq_false c86
       (try (have c86w_hl7_61 := c86b0; simp only [hl7_61] at c86w_hl7_61))
       (try (have c86w_hl8_61 := c86b0; simp only [hl8_61] at c86w_hl8_61))
       clear c86
       replace H := Option.bind_eq_some_iff.mp H
       obtain ⟨t475, A870, H⟩ := H
       replace H : (if t475 < 0 then (some false) else (if t475 = t458 then (some true) else (some false))) = some r := H
       have A87 := Aside0.mk A870
       clear A870
       by_cases c88 : t475 < 0
       case pos =>
        rw [if_pos c88] at H
        have c88b0 : decide (t475 < 0) = true := zE c88
        (try (have c88w_hl7_61 := c88b0; simp only [hl7_61] at c88w_hl7_61))
        (try (have c88w_hl8_61 := c88b0; simp only [hl8_61] at c88w_hl8_61))
        clear c88
        exact absurd (Option.some.inj H) (by rw [hr_]; decide)
       rw [if_neg c88] at H
       have c88b0 : decide (t475 < 0) = false := decide_eq_false c88
       (try (have c88w_hl7_61 := c88b0; simp only [hl7_61] at c88w_hl7_61))
       (try (have c88w_hl8_61 := c88b0; simp only [hl8_61] at c88w_hl8_61))
       clear c88
       by_cases c89 : t475 = t458
       case neg =>
        rw [if_neg c89] at H
        have c89b0 : (t475 == t458) = false := beq_eq_false_iff_ne.mpr c89
        have c89b1 : (t475 != t458) = true := bne_iff_ne.mpr c89
        (try (have c89w_hl7_61 := c89b0; simp only [hl7_61] at c89w_hl7_61))
        (try (have c89w_hl8_61 := c89b0; simp only [hl8_61] at c89w_hl8_61))
        exact absurd (Option.some.inj H) (by rw [hr_]; decide)
       rw [if_pos c89] at H
       have c89b0 : (t475 == t458) = true := beq_iff_eq.mpr c89
       have c89b1 : (t475 != t458) = false := bne_eq_false_iff_eq.mpr c89
       (try (have c89w_hl7_61 := c89b0; simp only [hl7_61] at c89w_hl7_61))
       (try (have c89w_hl8_61 := c89b0; simp only [hl8_61] at c89w_hl8_61))
       clear c89
       obtain rfl := Option.some.inj H
       go_wp2_with (first | ((with_reducible refine gate_callee (f := 30) rfl ?_); refine goesL_ (some 119) rfl rfl Try.func30 (by kernel_rfl) rfl #[.slice Ao63 t457.length co63, .int .i64 1] rfl (by (try simp only [List.map_toArray, List.map_cons, List.map_nil]); first | done | rfl | (simp only [List.length_drop, List.length_take]; rfl)) ?_; (with_reducible refine (laws_heldIntS.calls kj61 _ _ t457 1 t474 _ ?side1 ?side2 A85.out).mono ?_); (case side1 => repeat (first | exact (Kd.R_reads' HO_7.out).2.2 | (with_reducible first | refine zCa ?_ _ | refine zCn ?_ _ | refine zCd ?_))); (case side2 => exact (Kd.R_reads' HO_7.out).2.1); rintro e w' ⟨rfl, ⟨nd, rfl⟩⟩; refine ⟨_, rfl, ?_⟩) | ((with_reducible refine gate_callee (f := 30) rfl ?_); refine goesL_ (some 124) rfl rfl Try.func30 (by kernel_rfl) rfl #[.slice Ao65 t459.length co65, .int .i64 t474] rfl (by (try simp only [List.map_toArray, List.map_cons, List.map_nil]); first | done | rfl | (simp only [List.length_drop, List.length_take]; rfl)) ?_; (with_reducible refine (laws_heldIntS.calls kj61 _ _ t459 t474 t475 _ ?side1 ?side2 A87.out).mono ?_); (case side1 => repeat (first | exact (Kd.R_reads' HO_8.out).2.2 | (with_reducible first | refine zCa ?_ _ | refine zCn ?_ _ | refine zCd ?_))); (case side2 => exact (Kd.R_reads' HO_8.out).2.1); rintro e w' ⟨rfl, ⟨nd, rfl⟩⟩; refine ⟨_, rfl, ?_⟩))
       go_ret
       exact ⟨by first | rfl | (simp [errW_none, errW_some] <;> rfl) | (simp [*, errW_none, errW_some] <;> rfl), by repeat (first | (with_reducible first | exact HB.out | apply zBa | apply zBn | apply zBd) | exact HB.out)⟩

/-- THE ONE PURE STATEMENT of laws_FnExactOpenAll: yours. -/
def laws_FnExactOpenAll.Pure : Prop := ∀ (l0 : List Int), l0.length ≤ maxLen → l0.length * 1 ≤ 140737488351232 → (∀ x ∈ l0, (Lit.int .u8 x).wf = true) → ∃ k, laws_FnExactOpenAll.f k l0 = some true
theorem laws_FnExactOpenAll.walk (P : laws_FnExactOpenAll.Pure) (a0 : Option Addr) (len0 cap0 : Nat) (z0 : List Int) (w : World) (w0 : (a0 = none ∧ len0 = 0 ∧ cap0 = 0 ∧ z0 = []) ∨ ∃ x, a0 = some x ∧ len0 ≤ cap0 ∧ cap0 ≤ maxLen ∧ z0.length = cap0 ∧ (∀ i, i < z0.length → w.cell? (x.add i) = some (.int .u8 (z0.getD i 0))) ∧ ∀ n ∈ z0, (Lit.int .u8 n).wf = true) (y0 : len0 * 1 ≤ 140737488351232) :
 Calls Try.prog 14 #[.slice a0 len0 cap0] w fun e w' => e = .returned (.bool true) ∧ Below w.heap.size w w' := by
 obtain ⟨l0, rfl, hr0, hm0, hw0, hc0⟩ := ReadsInt.ofRowC w0
 obtain ⟨k, h⟩ := P l0 hm0 y0 hw0
 refine (laws_FnExactOpenAll.calls k _ _ l0 true w (Kd.C_of_reads (d := (0 : Int)) (h1 := fun _ => rfl) hr0) hc0 rfl h).mono ?_
 rintro e w' ⟨rfl, hd⟩
 exact ⟨rfl, hd⟩

end Go.Proofs.Ytieadaglkibjbaa.PFnExactOpenAll
