-- Written by a turned copy of the print (see the notes of this repo): plain functions and their walks. Lean checks it.
import Derived.Test.YtpphjbogijjnpaaPFnExactPassHintsx0
import Derived.Test.YtpphjbogijjnpaaPFnExactPassHintsx1
import Derived.Test.YtpphjbogijjnpaaPFnExactPassHintsx2
import Derived.Test.YtpphjbogijjnpaaPFnExactPassHintsx6
import Derived.Test.YtpphjbogijjnpaaPFnExactPassHintsx8
namespace Go.Proofs.Ytpphjbogijjnpaa.PFnExactPassHints
open Go.RowKit Go.Proofs.YtpphjbogijjnpaaW.PrintWords Go.Proofs.YtpphjbogijjnpaaW.PrintLast Go.Proofs.YtpphjbogijjnpaaW.PrintMore
attribute [local go_sem] max2_int min2_int max_two min_two max_three min_three max_four min_four   -- for this text's walks alone
set_option linter.unusedVariables false
set_option linter.unusedSimpArgs false

/-! ### laws_FnExactPassHints: function 5 -/
mutual
def laws_FnExactPassHints.j0 : Nat → List (List Int) → List Int → Int → List Int → Int → Bool → List (List Int) → List Int → List Int → Int → Bool → Bool → Option (Bool)
 | 0, _, _, _, _, _, _, _, _, _, _, _, _ => none
 | k + 1, x0, x1, x2, x8, x9, x10, x11, x12, x13, x14, x15, x65 => if x65 = true then (some false) else ((laws_toIntSS.f k x0).bind fun t297 => ((laws_eqIntSS.f k x11 t297).bind fun t300 => (if t300 = true then ((laws_toIntS.f k x1).bind fun t301 => ((laws_eqIntS.f k x12 t301).bind fun t304 => (if t304 = true then ((laws_markIntSS.f k x11 1).bind fun t305 => ((laws_markIntS.f k x12 t305).bind fun bt306 => (if bt306.1 < 0 then (laws_FnExactPassHints.j1 k x0 x1 x2 x8 x9 x10 x13 true) else ((laws_eqIntS.f k x13 x8).bind fun t308 => (if t308 = true then (if x14 = x9 then (laws_FnExactPassHints.j1 k x0 x1 x2 x8 x9 x10 x13 (x15 != x10)) else (laws_FnExactPassHints.j1 k x0 x1 x2 x8 x9 x10 x13 true)) else (laws_FnExactPassHints.j1 k x0 x1 x2 x8 x9 x10 x13 true)))))) else (some false)))) else (some false))))
def laws_FnExactPassHints.j1 : Nat → List (List Int) → List Int → Int → List Int → Int → Bool → List Int → Bool → Option (Bool)
 | 0, _, _, _, _, _, _, _, _ => none
 | k + 1, x0, x1, x2, x8, x9, x10, x13, x99 => if x99 = true then (some false) else ((laws_markIntS.f k x13 1).bind fun bt309 => ((laws_heldIntS.f k bt309.2 1).bind fun t311 => (if t311 < 0 then (some false) else (if t311 = bt309.1 then ((laws_toIntSS.f k x0).bind fun t312 => ((laws_toIntS.f k x1).bind fun t315 => ((impl_PassHints.f k t312 t315 x2).bind fun bt318 => ((laws_eqIntS.f k bt318.1 x8).bind fun t323 => (if t323 = true then (if bt318.2.1 = x9 then (laws_FnExactPassHints.j2 k bt309.2 bt309.1 (bt318.2.2 != x10)) else (laws_FnExactPassHints.j2 k bt309.2 bt309.1 true)) else (laws_FnExactPassHints.j2 k bt309.2 bt309.1 true)))))) else (some false)))))
def laws_FnExactPassHints.j2 : Nat → List Int → Int → Bool → Option (Bool)
 | 0, _, _, _ => none
 | k + 1, x13, x17, x134 => if x134 = true then (some false) else ((laws_heldIntS.f k x13 1).bind fun t324 => (if t324 < 0 then (some false) else (if t324 = x17 then (some true) else (some false))))
end
def laws_FnExactPassHints.f (k : Nat) (l0 : List (List Int)) (l1 : List Int) (a2 : Int) : Option (Bool) := if (l1.length : Int) > 1048576 then (some true) else ((laws_szIntSS.f k l0 1048576).bind fun t273 => (if t273 < 0 then (some true) else ((laws_toIntSS.f k l0).bind fun t274 => ((laws_toIntS.f k l1).bind fun t277 => ((spec_PassHints.f k t274 t277 a2).bind fun bt280 => ((laws_toIntSS.f k l0).bind fun t285 => ((laws_toIntS.f k l1).bind fun t288 => ((impl_PassHints.f k t285 t288 a2).bind fun bt291 => ((laws_eqIntS.f k bt291.1 bt280.1).bind fun t296 => (if t296 = true then (if bt291.2.1 = bt280.2.1 then (laws_FnExactPassHints.j0 k l0 l1 a2 bt280.1 bt280.2.1 bt280.2.2 t285 t288 bt291.1 bt291.2.1 bt291.2.2 (bt291.2.2 != bt280.2.2)) else (laws_FnExactPassHints.j0 k l0 l1 a2 bt280.1 bt280.2.1 bt280.2.2 t285 t288 bt291.1 bt291.2.1 bt291.2.2 true)) else (laws_FnExactPassHints.j0 k l0 l1 a2 bt280.1 bt280.2.1 bt280.2.2 t285 t288 bt291.1 bt291.2.1 bt291.2.2 true)))))))))))
theorem laws_FnExactPassHints.mono_l : ∀ k, (∀ y0 y1 y2 y3 y4 y5 y6 y7 y8 y9 y10 y11, LeO (laws_FnExactPassHints.j0 k y0 y1 y2 y3 y4 y5 y6 y7 y8 y9 y10 y11) (laws_FnExactPassHints.j0 (k + 1) y0 y1 y2 y3 y4 y5 y6 y7 y8 y9 y10 y11)) ∧ (∀ y0 y1 y2 y3 y4 y5 y6 y7, LeO (laws_FnExactPassHints.j1 k y0 y1 y2 y3 y4 y5 y6 y7) (laws_FnExactPassHints.j1 (k + 1) y0 y1 y2 y3 y4 y5 y6 y7)) ∧ (∀ y0 y1 y2, LeO (laws_FnExactPassHints.j2 k y0 y1 y2) (laws_FnExactPassHints.j2 (k + 1) y0 y1 y2))
 | 0 => ⟨fun _ _ _ _ _ _ _ _ _ _ _ _ r h => by simp [laws_FnExactPassHints.j0] at h, fun _ _ _ _ _ _ _ _ r h => by simp [laws_FnExactPassHints.j1] at h, fun _ _ _ r h => by simp [laws_FnExactPassHints.j2] at h⟩
 | k + 1 => by
  obtain ⟨ih0, ih1, ih2⟩ := laws_FnExactPassHints.mono_l k
  refine ⟨?_, ?_, ?_⟩
  ·intro y0 y1 y2 y3 y4 y5 y6 y7 y8 y9 y10 y11
   unfold laws_FnExactPassHints.j0
   repeat' first
   | (with_reducible exact ih0 _ _ _ _ _ _ _ _ _ _ _ _)
   | (with_reducible exact ih1 _ _ _ _ _ _ _ _)
   | (with_reducible exact ih2 _ _ _)
   | (with_reducible exact impl_PassHints.mono _ _ _ _)
   | (with_reducible exact laws_eqIntS.mono _ _ _)
   | (with_reducible exact laws_eqIntSS.mono _ _ _)
   | (with_reducible exact laws_heldIntS.mono _ _ _)
   | (with_reducible exact laws_markIntS.mono _ _ _)
   | (with_reducible exact laws_markIntSS.mono _ _ _)
   | (with_reducible exact laws_szIntSS.mono _ _ _)
   | (with_reducible exact laws_toIntS.mono _ _)
   | (with_reducible exact laws_toIntSS.mono _ _)
   | (with_reducible exact spec_PassHints.mono _ _ _ _)
   | (with_reducible exact LeO.refl _)
   | (with_reducible exact LeO.none _)
   | (with_reducible refine LeO.ite ?_ ?_)
   | (with_reducible refine LeO.bind ?_ (fun _ => ?_))
   | exact ih0 _ _ _ _ _ _ _ _ _ _ _ _
   | exact ih1 _ _ _ _ _ _ _ _
   | exact ih2 _ _ _
   | exact impl_PassHints.mono _ _ _ _
   | exact laws_eqIntS.mono _ _ _
   | exact laws_eqIntSS.mono _ _ _
   | exact laws_heldIntS.mono _ _ _
   | exact laws_markIntS.mono _ _ _
   | exact laws_markIntSS.mono _ _ _
   | exact laws_szIntSS.mono _ _ _
   | exact laws_toIntS.mono _ _
   | exact laws_toIntSS.mono _ _
   | exact spec_PassHints.mono _ _ _ _
   | exact LeO.none _
   | refine LeO.ite ?_ ?_
   | refine LeO.bind ?_ (fun _ => ?_)
  ·intro y0 y1 y2 y3 y4 y5 y6 y7
   unfold laws_FnExactPassHints.j1
   repeat' first
   | (with_reducible exact ih0 _ _ _ _ _ _ _ _ _ _ _ _)
   | (with_reducible exact ih1 _ _ _ _ _ _ _ _)
   | (with_reducible exact ih2 _ _ _)
   | (with_reducible exact impl_PassHints.mono _ _ _ _)
   | (with_reducible exact laws_eqIntS.mono _ _ _)
   | (with_reducible exact laws_eqIntSS.mono _ _ _)
   | (with_reducible exact laws_heldIntS.mono _ _ _)
   | (with_reducible exact laws_markIntS.mono _ _ _)
   | (with_reducible exact laws_markIntSS.mono _ _ _)
   | (with_reducible exact laws_szIntSS.mono _ _ _)
   | (with_reducible exact laws_toIntS.mono _ _)
   | (with_reducible exact laws_toIntSS.mono _ _)
   | (with_reducible exact spec_PassHints.mono _ _ _ _)
   | (with_reducible exact LeO.refl _)
   | (with_reducible exact LeO.none _)
   | (with_reducible refine LeO.ite ?_ ?_)
   | (with_reducible refine LeO.bind ?_ (fun _ => ?_))
   | exact ih0 _ _ _ _ _ _ _ _ _ _ _ _
   | exact ih1 _ _ _ _ _ _ _ _
   | exact ih2 _ _ _
   | exact impl_PassHints.mono _ _ _ _
   | exact laws_eqIntS.mono _ _ _
   | exact laws_eqIntSS.mono _ _ _
   | exact laws_heldIntS.mono _ _ _
   | exact laws_markIntS.mono _ _ _
   | exact laws_markIntSS.mono _ _ _
   | exact laws_szIntSS.mono _ _ _
   | exact laws_toIntS.mono _ _
   | exact laws_toIntSS.mono _ _
   | exact spec_PassHints.mono _ _ _ _
   | exact LeO.none _
   | refine LeO.ite ?_ ?_
   | refine LeO.bind ?_ (fun _ => ?_)
  ·intro y0 y1 y2
   unfold laws_FnExactPassHints.j2
   repeat' first
   | (with_reducible exact ih0 _ _ _ _ _ _ _ _ _ _ _ _)
   | (with_reducible exact ih1 _ _ _ _ _ _ _ _)
   | (with_reducible exact ih2 _ _ _)
   | (with_reducible exact impl_PassHints.mono _ _ _ _)
   | (with_reducible exact laws_eqIntS.mono _ _ _)
   | (with_reducible exact laws_eqIntSS.mono _ _ _)
   | (with_reducible exact laws_heldIntS.mono _ _ _)
   | (with_reducible exact laws_markIntS.mono _ _ _)
   | (with_reducible exact laws_markIntSS.mono _ _ _)
   | (with_reducible exact laws_szIntSS.mono _ _ _)
   | (with_reducible exact laws_toIntS.mono _ _)
   | (with_reducible exact laws_toIntSS.mono _ _)
   | (with_reducible exact spec_PassHints.mono _ _ _ _)
   | (with_reducible exact LeO.refl _)
   | (with_reducible exact LeO.none _)
   | (with_reducible refine LeO.ite ?_ ?_)
   | (with_reducible refine LeO.bind ?_ (fun _ => ?_))
   | exact ih0 _ _ _ _ _ _ _ _ _ _ _ _
   | exact ih1 _ _ _ _ _ _ _ _
   | exact ih2 _ _ _
   | exact impl_PassHints.mono _ _ _ _
   | exact laws_eqIntS.mono _ _ _
   | exact laws_eqIntSS.mono _ _ _
   | exact laws_heldIntS.mono _ _ _
   | exact laws_markIntS.mono _ _ _
   | exact laws_markIntSS.mono _ _ _
   | exact laws_szIntSS.mono _ _ _
   | exact laws_toIntS.mono _ _
   | exact laws_toIntSS.mono _ _
   | exact spec_PassHints.mono _ _ _ _
   | exact LeO.none _
   | refine LeO.ite ?_ ?_
   | refine LeO.bind ?_ (fun _ => ?_)
theorem laws_FnExactPassHints.mono : ∀ a0 a1 a2 k, LeO (laws_FnExactPassHints.f k a0 a1 a2) (laws_FnExactPassHints.f (k + 1) a0 a1 a2) := by
 intro a0 a1 a2 k
 obtain ⟨ih0, ih1, ih2⟩ := laws_FnExactPassHints.mono_l k
 unfold laws_FnExactPassHints.f
 repeat' first
  | (with_reducible exact ih0 _ _ _ _ _ _ _ _ _ _ _ _)
  | (with_reducible exact ih1 _ _ _ _ _ _ _ _)
  | (with_reducible exact ih2 _ _ _)
  | (with_reducible exact impl_PassHints.mono _ _ _ _)
  | (with_reducible exact laws_eqIntS.mono _ _ _)
  | (with_reducible exact laws_eqIntSS.mono _ _ _)
  | (with_reducible exact laws_heldIntS.mono _ _ _)
  | (with_reducible exact laws_markIntS.mono _ _ _)
  | (with_reducible exact laws_markIntSS.mono _ _ _)
  | (with_reducible exact laws_szIntSS.mono _ _ _)
  | (with_reducible exact laws_toIntS.mono _ _)
  | (with_reducible exact laws_toIntSS.mono _ _)
  | (with_reducible exact spec_PassHints.mono _ _ _ _)
  | (with_reducible exact LeO.refl _)
  | (with_reducible exact LeO.none _)
  | (with_reducible refine LeO.ite ?_ ?_)
  | (with_reducible refine LeO.bind ?_ (fun _ => ?_))
  | exact ih0 _ _ _ _ _ _ _ _ _ _ _ _
  | exact ih1 _ _ _ _ _ _ _ _
  | exact ih2 _ _ _
  | exact impl_PassHints.mono _ _ _ _
  | exact laws_eqIntS.mono _ _ _
  | exact laws_eqIntSS.mono _ _ _
  | exact laws_heldIntS.mono _ _ _
  | exact laws_markIntS.mono _ _ _
  | exact laws_markIntSS.mono _ _ _
  | exact laws_szIntSS.mono _ _ _
  | exact laws_toIntS.mono _ _
  | exact laws_toIntSS.mono _ _
  | exact spec_PassHints.mono _ _ _ _
  | exact LeO.none _
  | refine LeO.ite ?_ ?_
  | refine LeO.bind ?_ (fun _ => ?_)
set_option maxHeartbeats 8000000 in
set_option maxRecDepth 100000 in
theorem laws_FnExactPassHints.calls (k : Nat) (A0 : Option Addr) (c0 : Nat) (l0 : List (List Int)) (A1 : Option Addr) (c1 : Nat) (l1 : List Int) (a2 : Int) (r : Bool) (w : World) (hr0 : Kd.C (Kd.slice 3 (Kd.int .i64)) w A0 l0.length l0) (hc0 : l0.length ≤ c0) (hr1 : Kd.C (Kd.int .i64) w A1 l1.length l1) (hc1 : l1.length ≤ c1) (hr_ : r = true) (h : laws_FnExactPassHints.f k l0 l1 a2 = some r) :
 Calls Try.prog 5 #[.slice A0 l0.length c0, .slice A1 l1.length c1, .int .i64 a2] w fun e w' => e = .returned (.bool r) ∧ Below w.heap.size w w' := by
 have HR0 := Aside0.mk hr0
 have HC0 := Aside0.mk hc0
 clear hr0 hc0
 have HR1 := Aside0.mk hr1
 have HC1 := Aside0.mk hc1
 clear hr1 hc1
 have HB := Aside0.mk (Below.refl w.heap.size w)
 have H : (if (l1.length : Int) > 1048576 then (some true) else ((laws_szIntSS.f k l0 1048576).bind fun t273 => (if t273 < 0 then (some true) else ((laws_toIntSS.f k l0).bind fun t274 => ((laws_toIntS.f k l1).bind fun t277 => ((spec_PassHints.f k t274 t277 a2).bind fun bt280 => ((laws_toIntSS.f k l0).bind fun t285 => ((laws_toIntS.f k l1).bind fun t288 => ((impl_PassHints.f k t285 t288 a2).bind fun bt291 => ((laws_eqIntS.f k bt291.1 bt280.1).bind fun t296 => (if t296 = true then (if bt291.2.1 = bt280.2.1 then (laws_FnExactPassHints.j0 k l0 l1 a2 bt280.1 bt280.2.1 bt280.2.2 t285 t288 bt291.1 bt291.2.1 bt291.2.2 (bt291.2.2 != bt280.2.2)) else (laws_FnExactPassHints.j0 k l0 l1 a2 bt280.1 bt280.2.1 bt280.2.2 t285 t288 bt291.1 bt291.2.1 bt291.2.2 true)) else (laws_FnExactPassHints.j0 k l0 l1 a2 bt280.1 bt280.2.1 bt280.2.2 t285 t288 bt291.1 bt291.2.1 bt291.2.2 true)))))))))))) = some r := h
 clear h
 by_cases c4 : (l1.length : Int) > 1048576
 case pos =>
  rw [if_pos c4] at H
  have c4b0 : decide (1048576 < (l1.length : Int)) = true := zE c4
  have c4b1 : decide (1048576 < l1.length) = true := zE (by omega)
  clear c4
  obtain rfl := Option.some.inj H
  go_enter Try.func5, Try.ntmps5
  go_wp2
  go_ret
  exact ⟨by first | rfl | (simp [errW_none, errW_some] <;> rfl) | (simp [*, errW_none, errW_some] <;> rfl), by repeat (first | (with_reducible first | exact HB.out | apply zBa | apply zBn | apply zBd) | exact HB.out)⟩
 rw [if_neg c4] at H
 have c4b0 : decide (1048576 < (l1.length : Int)) = false := decide_eq_false c4
 have c4b1 : decide (1048576 < l1.length) = false := decide_eq_false (by omega)
 clear c4
 replace H := Option.bind_eq_some_iff.mp H
 obtain ⟨t273, A50, H⟩ := H
 replace H : (if t273 < 0 then (some true) else ((laws_toIntSS.f k l0).bind fun t274 => ((laws_toIntS.f k l1).bind fun t277 => ((spec_PassHints.f k t274 t277 a2).bind fun bt280 => ((laws_toIntSS.f k l0).bind fun t285 => ((laws_toIntS.f k l1).bind fun t288 => ((impl_PassHints.f k t285 t288 a2).bind fun bt291 => ((laws_eqIntS.f k bt291.1 bt280.1).bind fun t296 => (if t296 = true then (if bt291.2.1 = bt280.2.1 then (laws_FnExactPassHints.j0 k l0 l1 a2 bt280.1 bt280.2.1 bt280.2.2 t285 t288 bt291.1 bt291.2.1 bt291.2.2 (bt291.2.2 != bt280.2.2)) else (laws_FnExactPassHints.j0 k l0 l1 a2 bt280.1 bt280.2.1 bt280.2.2 t285 t288 bt291.1 bt291.2.1 bt291.2.2 true)) else (laws_FnExactPassHints.j0 k l0 l1 a2 bt280.1 bt280.2.1 bt280.2.2 t285 t288 bt291.1 bt291.2.1 bt291.2.2 true)))))))))) = some r := H
 have A5 := Aside0.mk A50
 clear A50
 by_cases c6 : t273 < 0
 case pos =>
  rw [if_pos c6] at H
  have c6b0 : decide (t273 < 0) = true := zE c6
  clear c6
  obtain rfl := Option.some.inj H
  go_enter Try.func5, Try.ntmps5
  go_wp2_with (first | ((with_reducible refine gate_callee (f := 9) rfl ?_); refine goesL_ (some 27) rfl rfl Try.func9 (by kernel_rfl) rfl #[.slice A0 l0.length c0, .int .i64 1048576] rfl (by (try simp only [List.map_toArray, List.map_cons, List.map_nil]); first | done | rfl | (simp only [List.length_drop, List.length_take]; rfl)) ?_; (with_reducible refine (laws_szIntSS.calls k _ _ l0 1048576 t273 _ ?side1 ?side2 A5.out).mono ?_); (case side1 => repeat (first | exact HR0.out | (with_reducible first | refine zCa ?_ _ | refine zCn ?_ _ | refine zCd ?_))); (case side2 => exact HC0.out); rintro e w' ⟨rfl, ⟨nd, rfl⟩⟩; refine ⟨_, rfl, ?_⟩))
  go_ret
  exact ⟨by first | rfl | (simp [errW_none, errW_some] <;> rfl) | (simp [*, errW_none, errW_some] <;> rfl), by repeat (first | (with_reducible first | exact HB.out | apply zBa | apply zBn | apply zBd) | exact HB.out)⟩
 rw [if_neg c6] at H
 have c6b0 : decide (t273 < 0) = false := decide_eq_false c6
 clear c6
 replace H := Option.bind_eq_some_iff.mp H
 obtain ⟨t274, A70, H⟩ := H
 replace H : ((laws_toIntS.f k l1).bind fun t277 => ((spec_PassHints.f k t274 t277 a2).bind fun bt280 => ((laws_toIntSS.f k l0).bind fun t285 => ((laws_toIntS.f k l1).bind fun t288 => ((impl_PassHints.f k t285 t288 a2).bind fun bt291 => ((laws_eqIntS.f k bt291.1 bt280.1).bind fun t296 => (if t296 = true then (if bt291.2.1 = bt280.2.1 then (laws_FnExactPassHints.j0 k l0 l1 a2 bt280.1 bt280.2.1 bt280.2.2 t285 t288 bt291.1 bt291.2.1 bt291.2.2 (bt291.2.2 != bt280.2.2)) else (laws_FnExactPassHints.j0 k l0 l1 a2 bt280.1 bt280.2.1 bt280.2.2 t285 t288 bt291.1 bt291.2.1 bt291.2.2 true)) else (laws_FnExactPassHints.j0 k l0 l1 a2 bt280.1 bt280.2.1 bt280.2.2 t285 t288 bt291.1 bt291.2.1 bt291.2.2 true)))))))) = some r := H
 have A7 := Aside0.mk A70
 clear A70
 replace H := Option.bind_eq_some_iff.mp H
 obtain ⟨t277, A80, H⟩ := H
 replace H : ((spec_PassHints.f k t274 t277 a2).bind fun bt280 => ((laws_toIntSS.f k l0).bind fun t285 => ((laws_toIntS.f k l1).bind fun t288 => ((impl_PassHints.f k t285 t288 a2).bind fun bt291 => ((laws_eqIntS.f k bt291.1 bt280.1).bind fun t296 => (if t296 = true then (if bt291.2.1 = bt280.2.1 then (laws_FnExactPassHints.j0 k l0 l1 a2 bt280.1 bt280.2.1 bt280.2.2 t285 t288 bt291.1 bt291.2.1 bt291.2.2 (bt291.2.2 != bt280.2.2)) else (laws_FnExactPassHints.j0 k l0 l1 a2 bt280.1 bt280.2.1 bt280.2.2 t285 t288 bt291.1 bt291.2.1 bt291.2.2 true)) else (laws_FnExactPassHints.j0 k l0 l1 a2 bt280.1 bt280.2.1 bt280.2.2 t285 t288 bt291.1 bt291.2.1 bt291.2.2 true))))))) = some r := H
 have A8 := Aside0.mk A80
 clear A80
 replace H := Option.bind_eq_some_iff.mp H
 obtain ⟨⟨t280, t281, t282⟩, A90, H⟩ := H
 replace H : ((laws_toIntSS.f k l0).bind fun t285 => ((laws_toIntS.f k l1).bind fun t288 => ((impl_PassHints.f k t285 t288 a2).bind fun bt291 => ((laws_eqIntS.f k bt291.1 t280).bind fun t296 => (if t296 = true then (if bt291.2.1 = t281 then (laws_FnExactPassHints.j0 k l0 l1 a2 t280 t281 t282 t285 t288 bt291.1 bt291.2.1 bt291.2.2 (bt291.2.2 != t282)) else (laws_FnExactPassHints.j0 k l0 l1 a2 t280 t281 t282 t285 t288 bt291.1 bt291.2.1 bt291.2.2 true)) else (laws_FnExactPassHints.j0 k l0 l1 a2 t280 t281 t282 t285 t288 bt291.1 bt291.2.1 bt291.2.2 true)))))) = some r := H
 have A9 := Aside0.mk A90
 clear A90
 replace H := Option.bind_eq_some_iff.mp H
 obtain ⟨t285, A100, H⟩ := H
 replace H : ((laws_toIntS.f k l1).bind fun t288 => ((impl_PassHints.f k t285 t288 a2).bind fun bt291 => ((laws_eqIntS.f k bt291.1 t280).bind fun t296 => (if t296 = true then (if bt291.2.1 = t281 then (laws_FnExactPassHints.j0 k l0 l1 a2 t280 t281 t282 t285 t288 bt291.1 bt291.2.1 bt291.2.2 (bt291.2.2 != t282)) else (laws_FnExactPassHints.j0 k l0 l1 a2 t280 t281 t282 t285 t288 bt291.1 bt291.2.1 bt291.2.2 true)) else (laws_FnExactPassHints.j0 k l0 l1 a2 t280 t281 t282 t285 t288 bt291.1 bt291.2.1 bt291.2.2 true))))) = some r := H
 have A10 := Aside0.mk A100
 clear A100
 replace H := Option.bind_eq_some_iff.mp H
 obtain ⟨t288, A110, H⟩ := H
 replace H : ((impl_PassHints.f k t285 t288 a2).bind fun bt291 => ((laws_eqIntS.f k bt291.1 t280).bind fun t296 => (if t296 = true then (if bt291.2.1 = t281 then (laws_FnExactPassHints.j0 k l0 l1 a2 t280 t281 t282 t285 t288 bt291.1 bt291.2.1 bt291.2.2 (bt291.2.2 != t282)) else (laws_FnExactPassHints.j0 k l0 l1 a2 t280 t281 t282 t285 t288 bt291.1 bt291.2.1 bt291.2.2 true)) else (laws_FnExactPassHints.j0 k l0 l1 a2 t280 t281 t282 t285 t288 bt291.1 bt291.2.1 bt291.2.2 true)))) = some r := H
 have A11 := Aside0.mk A110
 clear A110
 replace H := Option.bind_eq_some_iff.mp H
 obtain ⟨⟨t291, t292, t293⟩, A120, H⟩ := H
 replace H : ((laws_eqIntS.f k t291 t280).bind fun t296 => (if t296 = true then (if t292 = t281 then (laws_FnExactPassHints.j0 k l0 l1 a2 t280 t281 t282 t285 t288 t291 t292 t293 (t293 != t282)) else (laws_FnExactPassHints.j0 k l0 l1 a2 t280 t281 t282 t285 t288 t291 t292 t293 true)) else (laws_FnExactPassHints.j0 k l0 l1 a2 t280 t281 t282 t285 t288 t291 t292 t293 true))) = some r := H
 have A12 := Aside0.mk A120
 clear A120
 have HC13 := Aside0.mk H
 clear H
 go_enter Try.func5, Try.ntmps5
 go_upto_region 11 with (first | ((with_reducible refine gate_callee (f := 9) rfl ?_); refine goesL_ (some 27) rfl rfl Try.func9 (by kernel_rfl) rfl #[.slice A0 l0.length c0, .int .i64 1048576] rfl (by (try simp only [List.map_toArray, List.map_cons, List.map_nil]); first | done | rfl | (simp only [List.length_drop, List.length_take]; rfl)) ?_; (with_reducible refine (laws_szIntSS.calls k _ _ l0 1048576 t273 _ ?side1 ?side2 A5.out).mono ?_); (case side1 => repeat (first | exact HR0.out | (with_reducible first | refine zCa ?_ _ | refine zCn ?_ _ | refine zCd ?_))); (case side2 => exact HC0.out); rintro e w' ⟨rfl, ⟨nd, rfl⟩⟩; refine ⟨_, rfl, ?_⟩) | ((with_reducible refine gate_callee (f := 11) rfl ?_); refine goesL_ (some 32) rfl rfl Try.func11 (by kernel_rfl) rfl #[.slice A0 l0.length c0] rfl (by (try simp only [List.map_toArray, List.map_cons, List.map_nil]); first | done | rfl | (simp only [List.length_drop, List.length_take]; rfl)) ?_; (with_reducible refine (laws_toIntSS.calls k _ _ l0 t274 _ ?side1 ?side2 A7.out).mono ?_); (case side1 => repeat (first | exact HR0.out | (with_reducible first | refine zCa ?_ _ | refine zCn ?_ _ | refine zCd ?_))); (case side2 => exact HC0.out); rintro e w14 ⟨v275, rfl, ho0, hb⟩; refine ⟨_, rfl, ?_⟩; have n0_ := Aside0.mk (Kd.S_lower ho0 (below_size (by repeat (first | (with_reducible first | exact HB.out | apply zBa | apply zBn | apply zBd) | exact HB.out)))); have n1_ := Aside0.mk (below_step (by repeat (first | (with_reducible first | exact HB.out | apply zBa | apply zBn | apply zBd) | exact HB.out)) hb); clear HB; have HO276 := n0_; have HB := n1_; clear n0_ n1_; (try clear hb); (try clear hb2); (try clear hk); (try clear hi); (try clear ho0)) | ((with_reducible refine gate_callee (f := 12) rfl ?_); refine goesL_ (some 34) rfl rfl Try.func12 (by kernel_rfl) rfl #[.slice A1 l1.length c1] rfl (by (try simp only [List.map_toArray, List.map_cons, List.map_nil]); first | done | rfl | (simp only [List.length_drop, List.length_take]; rfl)) ?_; (with_reducible refine (laws_toIntS.calls k _ _ l1 t277 _ ?side1 ?side2 A8.out).mono ?_); (case side1 => repeat (first | exact (Kd.C_below HR1.out HB.out) | (with_reducible first | refine zCa ?_ _ | refine zCn ?_ _ | refine zCd ?_))); (case side2 => exact HC1.out); rintro e w15 ⟨v278, rfl, ho0, hb⟩; refine ⟨_, rfl, ?_⟩; have n0_ := Aside0.mk (Kd.S_elder' (by (with_reducible repeat (first | apply Kd.S_alloc | apply Kd.S_drewN | apply Kd.S_drew)); first | exact HO276.out | (subst_vars; exact HO276.out)) (Kd.R_base ho0) hb); have n1_ := Aside0.mk (Kd.R_lower ho0 (below_size (by repeat (first | (with_reducible first | exact HB.out | apply zBa | apply zBn | apply zBd) | exact HB.out)))); have n2_ := Aside0.mk (below_step (by repeat (first | (with_reducible first | exact HB.out | apply zBa | apply zBn | apply zBd) | exact HB.out)) hb); clear HO276; clear HB; have HO276 := n0_; have HO279 := n1_; have HB := n2_; clear n0_ n1_ n2_; (try clear hb); (try clear hb2); (try clear hk); (try clear hi); (try clear ho0); obtain ⟨Ao16, co16, eo16⟩ := Kd.S_slice HO276.out; subst eo16; obtain ⟨Ao17, co17, eo17⟩ := Kd.R_slice HO279.out; subst eo17) | ((with_reducible refine gate_callee (f := 21) rfl ?_); refine goesL_ (some 36) rfl rfl Try.func21 (by kernel_rfl) rfl #[.slice Ao16 t274.length co16, .slice Ao17 t277.length co17, .int .i64 a2] rfl (by (try simp only [List.map_toArray, List.map_cons, List.map_nil]); first | done | rfl | (simp only [List.length_drop, List.length_take]; rfl)) ?_; (with_reducible refine (spec_PassHints.calls k _ _ t274 _ _ t277 a2 t280 t281 t282 _ ?side1 ?side2 ?side3 ?side4 A9.out).mono ?_); (case side1 => repeat (first | exact (Kd.S_reads' HO276.out).2.2 | (with_reducible first | refine zCa ?_ _ | refine zCn ?_ _ | refine zCd ?_))); (case side2 => exact (Kd.S_reads' HO276.out).2.1); (case side3 => repeat (first | exact (Kd.R_reads' HO279.out).2.2 | (with_reducible first | refine zCa ?_ _ | refine zCn ?_ _ | refine zCd ?_))); (case side4 => exact (Kd.R_reads' HO279.out).2.1); rintro e w18 ⟨v283, rfl, ho0, hb⟩; refine ⟨_, rfl, ?_⟩; have n0_ := Aside0.mk (Kd.S_elder' (by (with_reducible repeat (first | apply Kd.S_alloc | apply Kd.S_drewN | apply Kd.S_drew)); first | exact HO276.out | (subst_vars; exact HO276.out)) (Kd.R_base ho0) hb); have n1_ := Aside0.mk (Kd.R_elder' (by (with_reducible repeat (first | apply zRa | apply zRn | apply zRd)); first | exact HO279.out | (subst_vars; exact HO279.out)) (Kd.R_base ho0) hb); have n2_ := Aside0.mk (Kd.R_lower (Kd.R_new' ho0 (Kd.R_lt (by (with_reducible repeat (first | apply zRa | apply zRn | apply zRd)); first | exact HO279.out | (subst_vars; exact HO279.out)))) (below_size (by repeat (first | (with_reducible first | exact HB.out | apply zBa | apply zBn | apply zBd) | exact HB.out)))); have n3_ := Aside0.mk (below_step (by repeat (first | (with_reducible first | exact HB.out | apply zBa | apply zBn | apply zBd) | exact HB.out)) hb); clear HO276; clear HO279; clear HB; have HO276 := n0_; have HO279 := n1_; have HO284 := n2_; have HB := n3_; clear n0_ n1_ n2_ n3_; (try clear hb); (try clear hb2); (try clear hk); (try clear hi); (try clear ho0)) | ((with_reducible refine gate_callee (f := 11) rfl ?_); refine goesL_ (some 41) rfl rfl Try.func11 (by kernel_rfl) rfl #[.slice A0 l0.length c0] rfl (by (try simp only [List.map_toArray, List.map_cons, List.map_nil]); first | done | rfl | (simp only [List.length_drop, List.length_take]; rfl)) ?_; (with_reducible refine (laws_toIntSS.calls k _ _ l0 t285 _ ?side1 ?side2 A10.out).mono ?_); (case side1 => repeat (first | exact (Kd.C_below HR0.out HB.out) | (with_reducible first | refine zCa ?_ _ | refine zCn ?_ _ | refine zCd ?_))); (case side2 => exact HC0.out); rintro e w19 ⟨v286, rfl, ho0, hb⟩; refine ⟨_, rfl, ?_⟩; have n0_ := Aside0.mk (Kd.S_elder' (by (with_reducible repeat (first | apply Kd.S_alloc | apply Kd.S_drewN | apply Kd.S_drew)); first | exact HO276.out | (subst_vars; exact HO276.out)) (Kd.S_base ho0) hb); have n1_ := Aside0.mk (Kd.R_below (by (with_reducible repeat (first | apply zRa | apply zRn | apply zRd)); first | exact HO279.out | (subst_vars; exact HO279.out)) hb); have n2_ := Aside0.mk (Kd.R_below (by (with_reducible repeat (first | apply zRa | apply zRn | apply zRd)); first | exact HO284.out | (subst_vars; exact HO284.out)) hb); have n3_ := Aside0.mk (Kd.S_lower (Kd.S_new' (Kd.S_new' (Kd.S_new' ho0 (Kd.S_lt (by (with_reducible repeat (first | apply Kd.S_alloc | apply Kd.S_drewN | apply Kd.S_drew)); first | exact HO276.out | (subst_vars; exact HO276.out)))) (Kd.R_lt (by (with_reducible repeat (first | apply zRa | apply zRn | apply zRd)); first | exact HO279.out | (subst_vars; exact HO279.out)))) (Kd.R_lt (by (with_reducible repeat (first | apply zRa | apply zRn | apply zRd)); first | exact HO284.out | (subst_vars; exact HO284.out)))) (below_size (by repeat (first | (with_reducible first | exact HB.out | apply zBa | apply zBn | apply zBd) | exact HB.out)))); have n4_ := Aside0.mk (below_step (by repeat (first | (with_reducible first | exact HB.out | apply zBa | apply zBn | apply zBd) | exact HB.out)) hb); clear HO276; clear HO279; clear HO284; clear HB; have HO276 := n0_; have HO279 := n1_; have HO284 := n2_; have HO287 := n3_; have HB := n4_; clear n0_ n1_ n2_ n3_ n4_; (try clear hb); (try clear hb2); (try clear hk); (try clear hi); (try clear ho0)) | ((with_reducible refine gate_callee (f := 12) rfl ?_); refine goesL_ (some 43) rfl rfl Try.func12 (by kernel_rfl) rfl #[.slice A1 l1.length c1] rfl (by (try simp only [List.map_toArray, List.map_cons, List.map_nil]); first | done | rfl | (simp only [List.length_drop, List.length_take]; rfl)) ?_; (with_reducible refine (laws_toIntS.calls k _ _ l1 t288 _ ?side1 ?side2 A11.out).mono ?_); (case side1 => repeat (first | exact (Kd.C_below HR1.out HB.out) | (with_reducible first | refine zCa ?_ _ | refine zCn ?_ _ | refine zCd ?_))); (case side2 => exact HC1.out); rintro e w20 ⟨v289, rfl, ho0, hb⟩; refine ⟨_, rfl, ?_⟩; have n0_ := Aside0.mk (Kd.S_elder' (by (with_reducible repeat (first | apply Kd.S_alloc | apply Kd.S_drewN | apply Kd.S_drew)); first | exact HO276.out | (subst_vars; exact HO276.out)) (Kd.R_base ho0) hb); have n1_ := Aside0.mk (Kd.R_elder' (by (with_reducible repeat (first | apply zRa | apply zRn | apply zRd)); first | exact HO279.out | (subst_vars; exact HO279.out)) (Kd.R_base ho0) hb); have n2_ := Aside0.mk (Kd.R_elder' (by (with_reducible repeat (first | apply zRa | apply zRn | apply zRd)); first | exact HO284.out | (subst_vars; exact HO284.out)) (Kd.R_base ho0) hb); have n3_ := Aside0.mk (Kd.S_elder' (by (with_reducible repeat (first | apply Kd.S_alloc | apply Kd.S_drewN | apply Kd.S_drew)); first | exact HO287.out | (subst_vars; exact HO287.out)) (Kd.R_base ho0) hb); have n4_ := Aside0.mk (Kd.R_lower (Kd.R_new' (Kd.R_new' ho0 (Kd.R_lt (by (with_reducible repeat (first | apply zRa | apply zRn | apply zRd)); first | exact HO279.out | (subst_vars; exact HO279.out)))) (Kd.R_lt (by (with_reducible repeat (first | apply zRa | apply zRn | apply zRd)); first | exact HO284.out | (subst_vars; exact HO284.out)))) (below_size (by repeat (first | (with_reducible first | exact HB.out | apply zBa | apply zBn | apply zBd) | exact HB.out)))); have n5_ := Aside0.mk (below_step (by repeat (first | (with_reducible first | exact HB.out | apply zBa | apply zBn | apply zBd) | exact HB.out)) hb); clear HO276; clear HO279; clear HO284; clear HO287; clear HB; have HO276 := n0_; have HO279 := n1_; have HO284 := n2_; have HO287 := n3_; have HO290 := n4_; have HB := n5_; clear n0_ n1_ n2_ n3_ n4_ n5_; (try clear hb); (try clear hb2); (try clear hk); (try clear hi); (try clear ho0); obtain ⟨Ao21, co21, eo21⟩ := Kd.S_slice HO287.out; subst eo21; obtain ⟨Ao22, co22, eo22⟩ := Kd.R_slice HO290.out; subst eo22) | ((with_reducible refine gate_callee (f := 22) rfl ?_); refine goesL_ (some 48) rfl rfl Try.func22 (by kernel_rfl) rfl #[.slice Ao21 t285.length co21, .slice Ao22 t288.length co22, .int .i64 a2] rfl (by (try simp only [List.map_toArray, List.map_cons, List.map_nil]); first | done | rfl | (simp only [List.length_drop, List.length_take]; rfl)) ?_; (with_reducible refine (impl_PassHints.calls k _ _ t285 _ _ t288 a2 t291 t292 t293 _ ?side1 ?side2 ?side3 ?side4 A12.out).mono ?_); (case side1 => repeat (first | exact (Kd.S_reads' HO287.out).2.2 | (with_reducible first | refine zCa ?_ _ | refine zCn ?_ _ | refine zCd ?_))); (case side2 => exact (Kd.S_reads' HO287.out).2.1); (case side3 => repeat (first | exact (Kd.R_reads' HO290.out).2.2 | (with_reducible first | refine zCa ?_ _ | refine zCn ?_ _ | refine zCd ?_))); (case side4 => exact (Kd.R_reads' HO290.out).2.1); rintro e w23 ⟨v294, rfl, ho0, hb⟩; refine ⟨_, rfl, ?_⟩; have n0_ := Aside0.mk (Kd.S_elder' (by (with_reducible repeat (first | apply Kd.S_alloc | apply Kd.S_drewN | apply Kd.S_drew)); first | exact HO276.out | (subst_vars; exact HO276.out)) (Kd.R_base ho0) hb); have n1_ := Aside0.mk (Kd.R_elder' (by (with_reducible repeat (first | apply zRa | apply zRn | apply zRd)); first | exact HO279.out | (subst_vars; exact HO279.out)) (Kd.R_base ho0) hb); have n2_ := Aside0.mk (Kd.R_elder' (by (with_reducible repeat (first | apply zRa | apply zRn | apply zRd)); first | exact HO284.out | (subst_vars; exact HO284.out)) (Kd.R_base ho0) hb); have n3_ := Aside0.mk (Kd.S_elder' (by (with_reducible repeat (first | apply Kd.S_alloc | apply Kd.S_drewN | apply Kd.S_drew)); first | exact HO287.out | (subst_vars; exact HO287.out)) (Kd.R_base ho0) hb); have n4_ := Aside0.mk (Kd.R_elder' (by (with_reducible repeat (first | apply zRa | apply zRn | apply zRd)); first | exact HO290.out | (subst_vars; exact HO290.out)) (Kd.R_base ho0) hb); have n5_ := Aside0.mk (Kd.R_lower (Kd.R_new' (Kd.R_new' (Kd.R_new' ho0 (Kd.R_lt (by (with_reducible repeat (first | apply zRa | apply zRn | apply zRd)); first | exact HO279.out | (subst_vars; exact HO279.out)))) (Kd.R_lt (by (with_reducible repeat (first | apply zRa | apply zRn | apply zRd)); first | exact HO284.out | (subst_vars; exact HO284.out)))) (Kd.R_lt (by (with_reducible repeat (first | apply zRa | apply zRn | apply zRd)); first | exact HO290.out | (subst_vars; exact HO290.out)))) (below_size (by repeat (first | (with_reducible first | exact HB.out | apply zBa | apply zBn | apply zBd) | exact HB.out)))); have n6_ := Aside0.mk (below_step (by repeat (first | (with_reducible first | exact HB.out | apply zBa | apply zBn | apply zBd) | exact HB.out)) hb); clear HO276; clear HO279; clear HO284; clear HO287; clear HO290; clear HB; have HO276 := n0_; have HO279 := n1_; have HO284 := n2_; have HO287 := n3_; have HO290 := n4_; have HO295 := n5_; have HB := n6_; clear n0_ n1_ n2_ n3_ n4_ n5_ n6_; (try clear hb); (try clear hb2); (try clear hk); (try clear hi); (try clear ho0)))
 (try simp only [Act.put, List.setIfInBounds_toArray, List.set_cons_zero, List.set_cons_succ])
 go_cut [65] (fun v65 wc => ∃ (kq : Nat) (x65_12 : Bool), v65 = .bool x65_12 ∧ Aside0 (laws_FnExactPassHints.j0 kq l0 l1 a2 t280 t281 t282 t285 t288 t291 t292 t293 x65_12 = some r) ∧ Aside0 (kq ≤ k) ∧ Aside0 (Kd.R (Kd.int .i64) 3 wc w.heap.size (fun k_ => some k_ ≠ ((.slice Ao22 t288.length co22) : Value).ownBlock ∧ some k_ ≠ (v294 : Value).ownBlock) v283 t280) ∧ Aside0 (Kd.S (Kd.slice 3 (Kd.int .i64)) 23 wc w.heap.size (fun k_ => some k_ ≠ (v283 : Value).ownBlock ∧ some k_ ≠ ((.slice Ao22 t288.length co22) : Value).ownBlock ∧ some k_ ≠ (v294 : Value).ownBlock) (.slice Ao21 t285.length co21) t285) ∧ Aside0 (Kd.R (Kd.int .i64) 3 wc w.heap.size (fun k_ => some k_ ≠ (v283 : Value).ownBlock ∧ some k_ ≠ (v294 : Value).ownBlock) (.slice Ao22 t288.length co22) t288) ∧ Aside0 (Kd.R (Kd.int .i64) 3 wc w.heap.size (fun k_ => some k_ ≠ (v283 : Value).ownBlock ∧ some k_ ≠ ((.slice Ao22 t288.length co22) : Value).ownBlock) v294 t291) ∧ Aside0 (Below w.heap.size w wc))
 case first =>
  have H := HC13.out
  clear HC13
  replace H := Option.bind_eq_some_iff.mp H
  obtain ⟨t296, A240, H⟩ := H
  replace H : (if t296 = true then (if t292 = t281 then (laws_FnExactPassHints.j0 k l0 l1 a2 t280 t281 t282 t285 t288 t291 t292 t293 (t293 != t282)) else (laws_FnExactPassHints.j0 k l0 l1 a2 t280 t281 t282 t285 t288 t291 t292 t293 true)) else (laws_FnExactPassHints.j0 k l0 l1 a2 t280 t281 t282 t285 t288 t291 t292 t293 true)) = some r := H
  have A24 := Aside0.mk A240
  clear A240
  by_cases c25 : t296 = true
  case neg =>
   replace c25 := Bool.eq_false_iff.mpr c25
   subst c25
   have H1 : (laws_FnExactPassHints.j0 k l0 l1 a2 t280 t281 t282 t285 t288 t291 t292 t293 true) = some r := by rw [if_neg (show ¬ (false = true) by decide)] at H; exact H
   clear H
   have H := H1
   clear H1
   have H' := Aside0.mk H
   clear H
   obtain ⟨Ao31, co31, eo31⟩ := Kd.R_slice HO295.out
   subst eo31
   obtain ⟨Ao32, co32, eo32⟩ := Kd.R_slice HO284.out
   subst eo32
   go_wp2_with (first | ((with_reducible refine gate_callee (f := 14) rfl ?_); refine goesL_ (some 54) rfl rfl Try.func14 (by kernel_rfl) rfl #[.slice Ao31 t291.length co31, .slice Ao32 t280.length co32] rfl (by (try simp only [List.map_toArray, List.map_cons, List.map_nil]); first | done | rfl | (simp only [List.length_drop, List.length_take]; rfl)) ?_; (with_reducible refine (laws_eqIntS.calls k _ _ t291 _ _ t280 false _ ?side1 ?side2 ?side3 ?side4 A24.out).mono ?_); (case side1 => repeat (first | exact (Kd.R_reads' HO295.out).2.2 | (with_reducible first | refine zCa ?_ _ | refine zCn ?_ _ | refine zCd ?_))); (case side2 => exact (Kd.R_reads' HO295.out).2.1); (case side3 => repeat (first | exact (Kd.R_reads' HO284.out).2.2 | (with_reducible first | refine zCa ?_ _ | refine zCn ?_ _ | refine zCd ?_))); (case side4 => exact (Kd.R_reads' HO284.out).2.1); rintro e w' ⟨rfl, ⟨nd, rfl⟩⟩; refine ⟨_, rfl, ?_⟩))
   go_meet
   case rel => exact ⟨_, (true), (by first | rfl | (simp; done) | (simp [*]; done)), H', ⟨by first | omega | exact Nat.le_refl _⟩, ⟨by (with_reducible repeat (first | apply zRa | apply zRn | apply zRd)); first | exact Kd.R_mono HO284.out (fun _ hk => ⟨hk.1.2, hk.2⟩) | (subst_vars; exact Kd.R_mono HO284.out (fun _ hk => ⟨hk.1.2, hk.2⟩))⟩, ⟨by (with_reducible repeat (first | apply Kd.S_alloc | apply Kd.S_drewN | apply Kd.S_drew)); first | exact Kd.S_mono HO287.out (fun _ hk => ⟨hk.1.1.2, ⟨hk.1.2, hk.2⟩⟩) | (subst_vars; exact Kd.S_mono HO287.out (fun _ hk => ⟨hk.1.1.2, ⟨hk.1.2, hk.2⟩⟩))⟩, ⟨by (with_reducible repeat (first | apply zRa | apply zRn | apply zRd)); first | exact Kd.R_mono HO290.out (fun _ hk => ⟨hk.1.2, hk.2⟩) | (subst_vars; exact Kd.R_mono HO290.out (fun _ hk => ⟨hk.1.2, hk.2⟩))⟩, ⟨by (with_reducible repeat (first | apply zRa | apply zRn | apply zRd)); first | exact Kd.R_mono HO295.out (fun _ hk => ⟨hk.1.2, hk.2⟩) | (subst_vars; exact Kd.R_mono HO295.out (fun _ hk => ⟨hk.1.2, hk.2⟩))⟩, ⟨by repeat (first | (with_reducible first | exact HB.out | apply zBa | apply zBn | apply zBd) | exact HB.out)⟩⟩
  subst c25
  have H1 : (if t292 = t281 then (laws_FnExactPassHints.j0 k l0 l1 a2 t280 t281 t282 t285 t288 t291 t292 t293 (t293 != t282)) else (laws_FnExactPassHints.j0 k l0 l1 a2 t280 t281 t282 t285 t288 t291 t292 t293 true)) = some r := by rw [if_pos rfl] at H; exact H
  clear H
  have H := H1
  clear H1
  by_cases c26 : t292 = t281
  case neg =>
   rw [if_neg c26] at H
   have c26b0 : (t292 == t281) = false := beq_eq_false_iff_ne.mpr c26
   have c26b1 : (t292 != t281) = true := bne_iff_ne.mpr c26
   (first | rw [c26b0] | (simp only [i64_w, i32_w]; rw [c26b0]) | skip)
   have H' := Aside0.mk H
   clear H
   obtain ⟨Ao29, co29, eo29⟩ := Kd.R_slice HO295.out
   subst eo29
   obtain ⟨Ao30, co30, eo30⟩ := Kd.R_slice HO284.out
   subst eo30
   go_wp2_with (first | ((with_reducible refine gate_callee (f := 14) rfl ?_); refine goesL_ (some 54) rfl rfl Try.func14 (by kernel_rfl) rfl #[.slice Ao29 t291.length co29, .slice Ao30 t280.length co30] rfl (by (try simp only [List.map_toArray, List.map_cons, List.map_nil]); first | done | rfl | (simp only [List.length_drop, List.length_take]; rfl)) ?_; (with_reducible refine (laws_eqIntS.calls k _ _ t291 _ _ t280 true _ ?side1 ?side2 ?side3 ?side4 A24.out).mono ?_); (case side1 => repeat (first | exact (Kd.R_reads' HO295.out).2.2 | (with_reducible first | refine zCa ?_ _ | refine zCn ?_ _ | refine zCd ?_))); (case side2 => exact (Kd.R_reads' HO295.out).2.1); (case side3 => repeat (first | exact (Kd.R_reads' HO284.out).2.2 | (with_reducible first | refine zCa ?_ _ | refine zCn ?_ _ | refine zCd ?_))); (case side4 => exact (Kd.R_reads' HO284.out).2.1); rintro e w' ⟨rfl, ⟨nd, rfl⟩⟩; refine ⟨_, rfl, ?_⟩))
   go_meet
   case rel => exact ⟨_, (true), (by first | rfl | (simp; done) | (simp [*]; done)), H', ⟨by first | omega | exact Nat.le_refl _⟩, ⟨by (with_reducible repeat (first | apply zRa | apply zRn | apply zRd)); first | exact Kd.R_mono HO284.out (fun _ hk => ⟨hk.1.2, hk.2⟩) | (subst_vars; exact Kd.R_mono HO284.out (fun _ hk => ⟨hk.1.2, hk.2⟩))⟩, ⟨by (with_reducible repeat (first | apply Kd.S_alloc | apply Kd.S_drewN | apply Kd.S_drew)); first | exact Kd.S_mono HO287.out (fun _ hk => ⟨hk.1.1.2, ⟨hk.1.2, hk.2⟩⟩) | (subst_vars; exact Kd.S_mono HO287.out (fun _ hk => ⟨hk.1.1.2, ⟨hk.1.2, hk.2⟩⟩))⟩, ⟨by (with_reducible repeat (first | apply zRa | apply zRn | apply zRd)); first | exact Kd.R_mono HO290.out (fun _ hk => ⟨hk.1.2, hk.2⟩) | (subst_vars; exact Kd.R_mono HO290.out (fun _ hk => ⟨hk.1.2, hk.2⟩))⟩, ⟨by (with_reducible repeat (first | apply zRa | apply zRn | apply zRd)); first | exact Kd.R_mono HO295.out (fun _ hk => ⟨hk.1.2, hk.2⟩) | (subst_vars; exact Kd.R_mono HO295.out (fun _ hk => ⟨hk.1.2, hk.2⟩))⟩, ⟨by repeat (first | (with_reducible first | exact HB.out | apply zBa | apply zBn | apply zBd) | exact HB.out)⟩⟩
  rw [if_pos c26] at H
  have c26b0 : (t292 == t281) = true := beq_iff_eq.mpr c26
  have c26b1 : (t292 != t281) = false := bne_eq_false_iff_eq.mpr c26
  clear c26
  (first | rw [c26b0] | (simp only [i64_w, i32_w]; rw [c26b0]) | skip)
  have H' := Aside0.mk H
  clear H
  obtain ⟨Ao27, co27, eo27⟩ := Kd.R_slice HO295.out
  subst eo27
  obtain ⟨Ao28, co28, eo28⟩ := Kd.R_slice HO284.out
  subst eo28
  go_wp2_with (first | ((with_reducible refine gate_callee (f := 14) rfl ?_); refine goesL_ (some 54) rfl rfl Try.func14 (by kernel_rfl) rfl #[.slice Ao27 t291.length co27, .slice Ao28 t280.length co28] rfl (by (try simp only [List.map_toArray, List.map_cons, List.map_nil]); first | done | rfl | (simp only [List.length_drop, List.length_take]; rfl)) ?_; (with_reducible refine (laws_eqIntS.calls k _ _ t291 _ _ t280 true _ ?side1 ?side2 ?side3 ?side4 A24.out).mono ?_); (case side1 => repeat (first | exact (Kd.R_reads' HO295.out).2.2 | (with_reducible first | refine zCa ?_ _ | refine zCn ?_ _ | refine zCd ?_))); (case side2 => exact (Kd.R_reads' HO295.out).2.1); (case side3 => repeat (first | exact (Kd.R_reads' HO284.out).2.2 | (with_reducible first | refine zCa ?_ _ | refine zCn ?_ _ | refine zCd ?_))); (case side4 => exact (Kd.R_reads' HO284.out).2.1); rintro e w' ⟨rfl, ⟨nd, rfl⟩⟩; refine ⟨_, rfl, ?_⟩))
  go_meet
  case rel => exact ⟨_, ((t293 != t282)), (by first | rfl | (simp; done) | (simp [*]; done)), H', ⟨by first | omega | exact Nat.le_refl _⟩, ⟨by (with_reducible repeat (first | apply zRa | apply zRn | apply zRd)); first | exact Kd.R_mono HO284.out (fun _ hk => ⟨hk.1.2, hk.2⟩) | (subst_vars; exact Kd.R_mono HO284.out (fun _ hk => ⟨hk.1.2, hk.2⟩))⟩, ⟨by (with_reducible repeat (first | apply Kd.S_alloc | apply Kd.S_drewN | apply Kd.S_drew)); first | exact Kd.S_mono HO287.out (fun _ hk => ⟨hk.1.1.2, ⟨hk.1.2, hk.2⟩⟩) | (subst_vars; exact Kd.S_mono HO287.out (fun _ hk => ⟨hk.1.1.2, ⟨hk.1.2, hk.2⟩⟩))⟩, ⟨by (with_reducible repeat (first | apply zRa | apply zRn | apply zRd)); first | exact Kd.R_mono HO290.out (fun _ hk => ⟨hk.1.2, hk.2⟩) | (subst_vars; exact Kd.R_mono HO290.out (fun _ hk => ⟨hk.1.2, hk.2⟩))⟩, ⟨by (with_reducible repeat (first | apply zRa | apply zRn | apply zRd)); first | exact Kd.R_mono HO295.out (fun _ hk => ⟨hk.1.2, hk.2⟩) | (subst_vars; exact Kd.R_mono HO295.out (fun _ hk => ⟨hk.1.2, hk.2⟩))⟩, ⟨by repeat (first | (with_reducible first | exact HB.out | apply zBa | apply zBn | apply zBd) | exact HB.out)⟩⟩
 case rest =>
  clear HC13
  try clear c1
  try clear c2
  try clear p2
  try clear c4
  try clear c4b0
  try clear c4b1
  try clear c5
  try clear c6
  try clear c6b0
  try clear c9
  try clear c11
  try clear c12
  try clear c14
  try clear c21
  try clear c22
  try clear c25
  try clear c26
  try clear c26b0
  try clear c26b1
  obtain ⟨kq, x65_12, rfl, HA, HJ12, HO_8, HO_11, HO_12, HO_13, HB⟩ := hcut
  cases kq with
  | zero => exact absurd HA.out (by simp [laws_FnExactPassHints.j0])
  | succ kj12 =>
   have H := HA.out
   clear HA
   simp only [laws_FnExactPassHints.j0] at H
   by_cases c33 : x65_12 = true
   case pos =>
    subst c33
    have H1 : (some false) = some r := by rw [if_pos rfl] at H; exact H
    clear H
    have H := H1
    clear H1
    exact absurd (Option.some.inj H) (by rw [hr_]; decide)
   replace c33 := Bool.eq_false_iff.mpr c33
   subst c33
   have H1 : ((laws_toIntSS.f kj12 l0).bind fun t297 => ((laws_eqIntSS.f kj12 t285 t297).bind fun t300 => (if t300 = true then ((laws_toIntS.f kj12 l1).bind fun t301 => ((laws_eqIntS.f kj12 t288 t301).bind fun t304 => (if t304 = true then ((laws_markIntSS.f kj12 t285 1).bind fun t305 => ((laws_markIntS.f kj12 t288 t305).bind fun bt306 => (if bt306.1 < 0 then (laws_FnExactPassHints.j1 kj12 l0 l1 a2 t280 t281 t282 t291 true) else ((laws_eqIntS.f kj12 t291 t280).bind fun t308 => (if t308 = true then (if t292 = t281 then (laws_FnExactPassHints.j1 kj12 l0 l1 a2 t280 t281 t282 t291 (t293 != t282)) else (laws_FnExactPassHints.j1 kj12 l0 l1 a2 t280 t281 t282 t291 true)) else (laws_FnExactPassHints.j1 kj12 l0 l1 a2 t280 t281 t282 t291 true)))))) else (some false)))) else (some false)))) = some r := by rw [if_neg (show ¬ (false = true) by decide)] at H; exact H
   clear H
   have H := H1
   clear H1
   replace H := Option.bind_eq_some_iff.mp H
   obtain ⟨t297, A340, H⟩ := H
   replace H : ((laws_eqIntSS.f kj12 t285 t297).bind fun t300 => (if t300 = true then ((laws_toIntS.f kj12 l1).bind fun t301 => ((laws_eqIntS.f kj12 t288 t301).bind fun t304 => (if t304 = true then ((laws_markIntSS.f kj12 t285 1).bind fun t305 => ((laws_markIntS.f kj12 t288 t305).bind fun bt306 => (if bt306.1 < 0 then (laws_FnExactPassHints.j1 kj12 l0 l1 a2 t280 t281 t282 t291 true) else ((laws_eqIntS.f kj12 t291 t280).bind fun t308 => (if t308 = true then (if t292 = t281 then (laws_FnExactPassHints.j1 kj12 l0 l1 a2 t280 t281 t282 t291 (t293 != t282)) else (laws_FnExactPassHints.j1 kj12 l0 l1 a2 t280 t281 t282 t291 true)) else (laws_FnExactPassHints.j1 kj12 l0 l1 a2 t280 t281 t282 t291 true)))))) else (some false)))) else (some false))) = some r := H
   have A34 := Aside0.mk A340
   clear A340
   replace H := Option.bind_eq_some_iff.mp H
   obtain ⟨t300, A350, H⟩ := H
   replace H : (if t300 = true then ((laws_toIntS.f kj12 l1).bind fun t301 => ((laws_eqIntS.f kj12 t288 t301).bind fun t304 => (if t304 = true then ((laws_markIntSS.f kj12 t285 1).bind fun t305 => ((laws_markIntS.f kj12 t288 t305).bind fun bt306 => (if bt306.1 < 0 then (laws_FnExactPassHints.j1 kj12 l0 l1 a2 t280 t281 t282 t291 true) else ((laws_eqIntS.f kj12 t291 t280).bind fun t308 => (if t308 = true then (if t292 = t281 then (laws_FnExactPassHints.j1 kj12 l0 l1 a2 t280 t281 t282 t291 (t293 != t282)) else (laws_FnExactPassHints.j1 kj12 l0 l1 a2 t280 t281 t282 t291 true)) else (laws_FnExactPassHints.j1 kj12 l0 l1 a2 t280 t281 t282 t291 true)))))) else (some false)))) else (some false)) = some r := H
   have A35 := Aside0.mk A350
   clear A350
   by_cases c36 : t300 = true
   case neg =>
    replace c36 := Bool.eq_false_iff.mpr c36
    subst c36
    have H1 : (some false) = some r := by rw [if_neg (show ¬ (false = true) by decide)] at H; exact H
    clear H
    have H := H1
    clear H1
    exact absurd (Option.some.inj H) (by rw [hr_]; decide)
   subst c36
   have H1 : ((laws_toIntS.f kj12 l1).bind fun t301 => ((laws_eqIntS.f kj12 t288 t301).bind fun t304 => (if t304 = true then ((laws_markIntSS.f kj12 t285 1).bind fun t305 => ((laws_markIntS.f kj12 t288 t305).bind fun bt306 => (if bt306.1 < 0 then (laws_FnExactPassHints.j1 kj12 l0 l1 a2 t280 t281 t282 t291 true) else ((laws_eqIntS.f kj12 t291 t280).bind fun t308 => (if t308 = true then (if t292 = t281 then (laws_FnExactPassHints.j1 kj12 l0 l1 a2 t280 t281 t282 t291 (t293 != t282)) else (laws_FnExactPassHints.j1 kj12 l0 l1 a2 t280 t281 t282 t291 true)) else (laws_FnExactPassHints.j1 kj12 l0 l1 a2 t280 t281 t282 t291 true)))))) else (some false)))) = some r := by rw [if_pos rfl] at H; exact H
   clear H
   have H := H1
   clear H1
   replace H := Option.bind_eq_some_iff.mp H
   obtain ⟨t301, A370, H⟩ := H
   replace H : ((laws_eqIntS.f kj12 t288 t301).bind fun t304 => (if t304 = true then ((laws_markIntSS.f kj12 t285 1).bind fun t305 => ((laws_markIntS.f kj12 t288 t305).bind fun bt306 => (if bt306.1 < 0 then (laws_FnExactPassHints.j1 kj12 l0 l1 a2 t280 t281 t282 t291 true) else ((laws_eqIntS.f kj12 t291 t280).bind fun t308 => (if t308 = true then (if t292 = t281 then (laws_FnExactPassHints.j1 kj12 l0 l1 a2 t280 t281 t282 t291 (t293 != t282)) else (laws_FnExactPassHints.j1 kj12 l0 l1 a2 t280 t281 t282 t291 true)) else (laws_FnExactPassHints.j1 kj12 l0 l1 a2 t280 t281 t282 t291 true)))))) else (some false))) = some r := H
   have A37 := Aside0.mk A370
   clear A370
   replace H := Option.bind_eq_some_iff.mp H
   obtain ⟨t304, A380, H⟩ := H
   replace H : (if t304 = true then ((laws_markIntSS.f kj12 t285 1).bind fun t305 => ((laws_markIntS.f kj12 t288 t305).bind fun bt306 => (if bt306.1 < 0 then (laws_FnExactPassHints.j1 kj12 l0 l1 a2 t280 t281 t282 t291 true) else ((laws_eqIntS.f kj12 t291 t280).bind fun t308 => (if t308 = true then (if t292 = t281 then (laws_FnExactPassHints.j1 kj12 l0 l1 a2 t280 t281 t282 t291 (t293 != t282)) else (laws_FnExactPassHints.j1 kj12 l0 l1 a2 t280 t281 t282 t291 true)) else (laws_FnExactPassHints.j1 kj12 l0 l1 a2 t280 t281 t282 t291 true)))))) else (some false)) = some r := H
   have A38 := Aside0.mk A380
   clear A380
   by_cases c39 : t304 = true
   case neg =>
    replace c39 := Bool.eq_false_iff.mpr c39
    subst c39
    have H1 : (some false) = some r := by rw [if_neg (show ¬ (false = true) by decide)] at H; exact H
    clear H
    have H := H1
    clear H1
    exact absurd (Option.some.inj H) (by rw [hr_]; decide)
   subst c39
   have H1 : ((laws_markIntSS.f kj12 t285 1).bind fun t305 => ((laws_markIntS.f kj12 t288 t305).bind fun bt306 => (if bt306.1 < 0 then (laws_FnExactPassHints.j1 kj12 l0 l1 a2 t280 t281 t282 t291 true) else ((laws_eqIntS.f kj12 t291 t280).bind fun t308 => (if t308 = true then (if t292 = t281 then (laws_FnExactPassHints.j1 kj12 l0 l1 a2 t280 t281 t282 t291 (t293 != t282)) else (laws_FnExactPassHints.j1 kj12 l0 l1 a2 t280 t281 t282 t291 true)) else (laws_FnExactPassHints.j1 kj12 l0 l1 a2 t280 t281 t282 t291 true)))))) = some r := by rw [if_pos rfl] at H; exact H
   clear H
   have H := H1
   clear H1
   replace H := Option.bind_eq_some_iff.mp H
   obtain ⟨t305, A400, H⟩ := H
   replace H : ((laws_markIntS.f kj12 t288 t305).bind fun bt306 => (if bt306.1 < 0 then (laws_FnExactPassHints.j1 kj12 l0 l1 a2 t280 t281 t282 t291 true) else ((laws_eqIntS.f kj12 t291 t280).bind fun t308 => (if t308 = true then (if t292 = t281 then (laws_FnExactPassHints.j1 kj12 l0 l1 a2 t280 t281 t282 t291 (t293 != t282)) else (laws_FnExactPassHints.j1 kj12 l0 l1 a2 t280 t281 t282 t291 true)) else (laws_FnExactPassHints.j1 kj12 l0 l1 a2 t280 t281 t282 t291 true))))) = some r := H
   have A40 := Aside0.mk A400
   clear A400
   replace H := Option.bind_eq_some_iff.mp H
   obtain ⟨⟨t306, t307⟩, A410, H⟩ := H
   replace H : (if t306 < 0 then (laws_FnExactPassHints.j1 kj12 l0 l1 a2 t280 t281 t282 t291 true) else ((laws_eqIntS.f kj12 t291 t280).bind fun t308 => (if t308 = true then (if t292 = t281 then (laws_FnExactPassHints.j1 kj12 l0 l1 a2 t280 t281 t282 t291 (t293 != t282)) else (laws_FnExactPassHints.j1 kj12 l0 l1 a2 t280 t281 t282 t291 true)) else (laws_FnExactPassHints.j1 kj12 l0 l1 a2 t280 t281 t282 t291 true)))) = some r := H
   have A41 := Aside0.mk A410
   clear A410
   have HC42 := Aside0.mk H
   clear H
   go_upto_region 20 with (first | ((with_reducible refine gate_callee (f := 11) rfl ?_); refine goesL_ (some 68) rfl rfl Try.func11 (by kernel_rfl) rfl #[.slice A0 l0.length c0] rfl (by (try simp only [List.map_toArray, List.map_cons, List.map_nil]); first | done | rfl | (simp only [List.length_drop, List.length_take]; rfl)) ?_; (with_reducible refine (laws_toIntSS.calls kj12 _ _ l0 t297 _ ?side1 ?side2 A34.out).mono ?_); (case side1 => repeat (first | exact (Kd.C_below HR0.out HB.out) | (with_reducible first | refine zCa ?_ _ | refine zCn ?_ _ | refine zCd ?_))); (case side2 => exact HC0.out); rintro e w43 ⟨v298, rfl, ho0, hb⟩; refine ⟨_, rfl, ?_⟩; have n0_ := Aside0.mk (Kd.R_below (by (with_reducible repeat (first | apply zRa | apply zRn | apply zRd)); first | exact HO_8.out | (subst_vars; exact HO_8.out)) hb); have n1_ := Aside0.mk (Kd.S_elder' (by (with_reducible repeat (first | apply Kd.S_alloc | apply Kd.S_drewN | apply Kd.S_drew)); first | exact HO_11.out | (subst_vars; exact HO_11.out)) (Kd.S_base ho0) hb); have n2_ := Aside0.mk (Kd.R_below (by (with_reducible repeat (first | apply zRa | apply zRn | apply zRd)); first | exact HO_12.out | (subst_vars; exact HO_12.out)) hb); have n3_ := Aside0.mk (Kd.R_below (by (with_reducible repeat (first | apply zRa | apply zRn | apply zRd)); first | exact HO_13.out | (subst_vars; exact HO_13.out)) hb); have n4_ := Aside0.mk (Kd.S_lower (Kd.S_new' (Kd.S_new' (Kd.S_new' (Kd.S_new' ho0 (Kd.R_lt (by (with_reducible repeat (first | apply zRa | apply zRn | apply zRd)); first | exact HO_8.out | (subst_vars; exact HO_8.out)))) (Kd.S_lt (by (with_reducible repeat (first | apply Kd.S_alloc | apply Kd.S_drewN | apply Kd.S_drew)); first | exact HO_11.out | (subst_vars; exact HO_11.out)))) (Kd.R_lt (by (with_reducible repeat (first | apply zRa | apply zRn | apply zRd)); first | exact HO_12.out | (subst_vars; exact HO_12.out)))) (Kd.R_lt (by (with_reducible repeat (first | apply zRa | apply zRn | apply zRd)); first | exact HO_13.out | (subst_vars; exact HO_13.out)))) (below_size (by repeat (first | (with_reducible first | exact HB.out | apply zBa | apply zBn | apply zBd) | exact HB.out)))); have n5_ := Aside0.mk (below_step (by repeat (first | (with_reducible first | exact HB.out | apply zBa | apply zBn | apply zBd) | exact HB.out)) hb); clear HO_8; clear HO_11; clear HO_12; clear HO_13; clear HB; have HO_8 := n0_; have HO_11 := n1_; have HO_12 := n2_; have HO_13 := n3_; have HO299 := n4_; have HB := n5_; clear n0_ n1_ n2_ n3_ n4_ n5_; (try clear hb); (try clear hb2); (try clear hk); (try clear hi); (try clear ho0); obtain ⟨Ao44, co44, eo44⟩ := Kd.S_slice HO299.out; subst eo44) | ((with_reducible refine gate_callee (f := 15) rfl ?_); refine goesL_ (some 69) rfl rfl Try.func15 (by kernel_rfl) rfl #[.slice Ao21 t285.length co21, .slice Ao44 t297.length co44] rfl (by (try simp only [List.map_toArray, List.map_cons, List.map_nil]); first | done | rfl | (simp only [List.length_drop, List.length_take]; rfl)) ?_; (with_reducible refine (laws_eqIntSS.calls kj12 _ _ t285 _ _ t297 true _ ?side1 ?side2 ?side3 ?side4 A35.out).mono ?_); (case side1 => repeat (first | exact (Kd.S_reads' HO_11.out).2.2 | (with_reducible first | refine zCa ?_ _ | refine zCn ?_ _ | refine zCd ?_))); (case side2 => exact (Kd.S_reads' HO_11.out).2.1); (case side3 => repeat (first | exact (Kd.S_reads' HO299.out).2.2 | (with_reducible first | refine zCa ?_ _ | refine zCn ?_ _ | refine zCd ?_))); (case side4 => exact (Kd.S_reads' HO299.out).2.1); rintro e w' ⟨rfl, ⟨nd, rfl⟩⟩; refine ⟨_, rfl, ?_⟩) | ((with_reducible refine gate_callee (f := 12) rfl ?_); refine goesL_ (some 73) rfl rfl Try.func12 (by kernel_rfl) rfl #[.slice A1 l1.length c1] rfl (by (try simp only [List.map_toArray, List.map_cons, List.map_nil]); first | done | rfl | (simp only [List.length_drop, List.length_take]; rfl)) ?_; (with_reducible refine (laws_toIntS.calls kj12 _ _ l1 t301 _ ?side1 ?side2 A37.out).mono ?_); (case side1 => repeat (first | exact (Kd.C_below HR1.out (by repeat (first | (with_reducible first | exact HB.out | apply zBa | apply zBn | apply zBd) | exact HB.out))) | (with_reducible first | refine zCa ?_ _ | refine zCn ?_ _ | refine zCd ?_))); (case side2 => exact HC1.out); rintro e w45 ⟨v302, rfl, ho0, hb⟩; refine ⟨_, rfl, ?_⟩; have n0_ := Aside0.mk (Kd.R_elder' (by (with_reducible repeat (first | apply zRa | apply zRn | apply zRd)); first | exact HO_8.out | (subst_vars; exact HO_8.out)) (Kd.R_base ho0) hb); have n1_ := Aside0.mk (Kd.S_elder' (by (with_reducible repeat (first | apply Kd.S_alloc | apply Kd.S_drewN | apply Kd.S_drew)); first | exact HO_11.out | (subst_vars; exact HO_11.out)) (Kd.R_base ho0) hb); have n2_ := Aside0.mk (Kd.R_elder' (by (with_reducible repeat (first | apply zRa | apply zRn | apply zRd)); first | exact HO_12.out | (subst_vars; exact HO_12.out)) (Kd.R_base ho0) hb); have n3_ := Aside0.mk (Kd.R_elder' (by (with_reducible repeat (first | apply zRa | apply zRn | apply zRd)); first | exact HO_13.out | (subst_vars; exact HO_13.out)) (Kd.R_base ho0) hb); have n4_ := Aside0.mk (Kd.S_elder' (by (with_reducible repeat (first | apply Kd.S_alloc | apply Kd.S_drewN | apply Kd.S_drew)); first | exact HO299.out | (subst_vars; exact HO299.out)) (Kd.R_base ho0) hb); have n5_ := Aside0.mk (Kd.R_lower (Kd.R_new' (Kd.R_new' (Kd.R_new' ho0 (Kd.R_lt (by (with_reducible repeat (first | apply zRa | apply zRn | apply zRd)); first | exact HO_8.out | (subst_vars; exact HO_8.out)))) (Kd.R_lt (by (with_reducible repeat (first | apply zRa | apply zRn | apply zRd)); first | exact HO_12.out | (subst_vars; exact HO_12.out)))) (Kd.R_lt (by (with_reducible repeat (first | apply zRa | apply zRn | apply zRd)); first | exact HO_13.out | (subst_vars; exact HO_13.out)))) (below_size (by repeat (first | (with_reducible first | exact HB.out | apply zBa | apply zBn | apply zBd) | exact HB.out)))); have n6_ := Aside0.mk (below_step (by repeat (first | (with_reducible first | exact HB.out | apply zBa | apply zBn | apply zBd) | exact HB.out)) hb); clear HO_8; clear HO_11; clear HO_12; clear HO_13; clear HO299; clear HB; have HO_8 := n0_; have HO_11 := n1_; have HO_12 := n2_; have HO_13 := n3_; have HO299 := n4_; have HO303 := n5_; have HB := n6_; clear n0_ n1_ n2_ n3_ n4_ n5_ n6_; (try clear hb); (try clear hb2); (try clear hk); (try clear hi); (try clear ho0); obtain ⟨Ao46, co46, eo46⟩ := Kd.R_slice HO303.out; subst eo46) | ((with_reducible refine gate_callee (f := 14) rfl ?_); refine goesL_ (some 74) rfl rfl Try.func14 (by kernel_rfl) rfl #[.slice Ao22 t288.length co22, .slice Ao46 t301.length co46] rfl (by (try simp only [List.map_toArray, List.map_cons, List.map_nil]); first | done | rfl | (simp only [List.length_drop, List.length_take]; rfl)) ?_; (with_reducible refine (laws_eqIntS.calls kj12 _ _ t288 _ _ t301 true _ ?side1 ?side2 ?side3 ?side4 A38.out).mono ?_); (case side1 => repeat (first | exact (Kd.R_reads' HO_12.out).2.2 | (with_reducible first | refine zCa ?_ _ | refine zCn ?_ _ | refine zCd ?_))); (case side2 => exact (Kd.R_reads' HO_12.out).2.1); (case side3 => repeat (first | exact (Kd.R_reads' HO303.out).2.2 | (with_reducible first | refine zCa ?_ _ | refine zCn ?_ _ | refine zCd ?_))); (case side4 => exact (Kd.R_reads' HO303.out).2.1); rintro e w' ⟨rfl, ⟨nd, rfl⟩⟩; refine ⟨_, rfl, ?_⟩) | ((with_reducible refine gate_callee (f := 16) rfl ?_); refine goesL_ (some 78) rfl rfl Try.func16 (by kernel_rfl) rfl #[.slice Ao21 t285.length co21, .int .i64 1] rfl (by (try simp only [List.map_toArray, List.map_cons, List.map_nil]); first | done | rfl | (simp only [List.length_drop, List.length_take]; rfl)) ?_; (with_reducible refine (laws_markIntSS.calls kj12 (fun k_ => (((some k_ ≠ (v283 : Value).ownBlock ∧ (some k_ ≠ (.slice Ao22 t288.length co22 : Value).ownBlock ∧ some k_ ≠ (v294 : Value).ownBlock)) ∧ some k_ ≠ (.slice Ao44 t297.length co44 : Value).ownBlock) ∧ some k_ ≠ (.slice Ao46 t301.length co46 : Value).ownBlock)) (.slice Ao21 t285.length co21) t285 1 t305 w _ ?side1 ?side2 A40.out).mono ?_); (case side1 => repeat (first | (with_reducible first | exact HB.out | apply zBa | apply zBn | apply zBd) | exact HB.out)); (case side2 => exact HO_11.out); rintro e w47 ⟨rfl, hb, hkp⟩; refine ⟨_, rfl, ?_⟩; have n0_ := Aside0.mk (Kd.R_mono (ok' := fun k_ => some k_ ≠ (.slice Ao22 t288.length co22 : Value).ownBlock ∧ some k_ ≠ (v294 : Value).ownBlock ∧ some k_ ≠ (.slice Ao46 t301.length co46 : Value).ownBlock) (Kd.R_keptB ((Kd.R_mono (ok' := fun k_ => ((some k_ ≠ (.slice Ao22 t288.length co22 : Value).ownBlock ∧ some k_ ≠ (v294 : Value).ownBlock) ∧ some k_ ≠ (.slice Ao46 t301.length co46 : Value).ownBlock) ∧ ¬ ((((some k_ ≠ (v283 : Value).ownBlock ∧ (some k_ ≠ (.slice Ao22 t288.length co22 : Value).ownBlock ∧ some k_ ≠ (v294 : Value).ownBlock)) ∧ some k_ ≠ (.slice Ao44 t297.length co44 : Value).ownBlock) ∧ some k_ ≠ (.slice Ao46 t301.length co46 : Value).ownBlock))) (Kd.R_tight2 rfl HO_8.out) (fun k_ hk => ⟨hk.2, fun hs_ => (hs_.1.1.1) hk.1⟩))) hkp (fun k_ hk_ hs_ => (hk_.2) hs_)) (fun k_ hk_ => ⟨hk_.1.1.1.1, hk_.1.1.1.2, hk_.1.1.2⟩)); have n1_ := Aside0.mk (Kd.R_mono (ok' := fun k_ => some k_ ≠ (v283 : Value).ownBlock ∧ some k_ ≠ (v294 : Value).ownBlock ∧ some k_ ≠ (.slice Ao46 t301.length co46 : Value).ownBlock) (Kd.R_keptB ((Kd.R_mono (ok' := fun k_ => ((some k_ ≠ (v283 : Value).ownBlock ∧ some k_ ≠ (v294 : Value).ownBlock) ∧ some k_ ≠ (.slice Ao46 t301.length co46 : Value).ownBlock) ∧ ¬ ((((some k_ ≠ (v283 : Value).ownBlock ∧ (some k_ ≠ (.slice Ao22 t288.length co22 : Value).ownBlock ∧ some k_ ≠ (v294 : Value).ownBlock)) ∧ some k_ ≠ (.slice Ao44 t297.length co44 : Value).ownBlock) ∧ some k_ ≠ (.slice Ao46 t301.length co46 : Value).ownBlock))) (Kd.R_tight2 rfl HO_12.out) (fun k_ hk => ⟨hk.2, fun hs_ => (hs_.1.1.2.1) hk.1⟩))) hkp (fun k_ hk_ hs_ => (hk_.2) hs_)) (fun k_ hk_ => ⟨hk_.1.1.1.1, hk_.1.1.1.2, hk_.1.1.2⟩)); have n2_ := Aside0.mk (Kd.R_mono (ok' := fun k_ => some k_ ≠ (v283 : Value).ownBlock ∧ some k_ ≠ (.slice Ao22 t288.length co22 : Value).ownBlock ∧ some k_ ≠ (.slice Ao46 t301.length co46 : Value).ownBlock) (Kd.R_keptB ((Kd.R_mono (ok' := fun k_ => ((some k_ ≠ (v283 : Value).ownBlock ∧ some k_ ≠ (.slice Ao22 t288.length co22 : Value).ownBlock) ∧ some k_ ≠ (.slice Ao46 t301.length co46 : Value).ownBlock) ∧ ¬ ((((some k_ ≠ (v283 : Value).ownBlock ∧ (some k_ ≠ (.slice Ao22 t288.length co22 : Value).ownBlock ∧ some k_ ≠ (v294 : Value).ownBlock)) ∧ some k_ ≠ (.slice Ao44 t297.length co44 : Value).ownBlock) ∧ some k_ ≠ (.slice Ao46 t301.length co46 : Value).ownBlock))) (Kd.R_tight2 rfl HO_13.out) (fun k_ hk => ⟨hk.2, fun hs_ => (hs_.1.1.2.2) hk.1⟩))) hkp (fun k_ hk_ hs_ => (hk_.2) hs_)) (fun k_ hk_ => ⟨hk_.1.1.1.1, hk_.1.1.1.2, hk_.1.1.2⟩)); have n3_ := Aside0.mk (Kd.R_mono (ok' := fun k_ => some k_ ≠ (v283 : Value).ownBlock ∧ some k_ ≠ (.slice Ao22 t288.length co22 : Value).ownBlock ∧ some k_ ≠ (v294 : Value).ownBlock) (Kd.R_keptB ((Kd.R_mono (ok' := fun k_ => (((True ∧ some k_ ≠ (v283 : Value).ownBlock) ∧ some k_ ≠ (.slice Ao22 t288.length co22 : Value).ownBlock) ∧ some k_ ≠ (v294 : Value).ownBlock) ∧ ¬ ((((some k_ ≠ (v283 : Value).ownBlock ∧ (some k_ ≠ (.slice Ao22 t288.length co22 : Value).ownBlock ∧ some k_ ≠ (v294 : Value).ownBlock)) ∧ some k_ ≠ (.slice Ao44 t297.length co44 : Value).ownBlock) ∧ some k_ ≠ (.slice Ao46 t301.length co46 : Value).ownBlock))) (Kd.R_tight2 rfl HO303.out) (fun k_ hk => ⟨hk.2, fun hs_ => (hs_.2) hk.1⟩))) hkp (fun k_ hk_ hs_ => (hk_.2) hs_)) (fun k_ hk_ => ⟨hk_.1.1.1.1.2, hk_.1.1.1.2, hk_.1.1.2⟩)); have n4_ := Aside0.mk (hb); clear HO_8; clear HO_12; clear HO_13; clear HO303; clear HB; clear HO299; clear HO_11; have HO_8 := n0_; have HO_12 := n1_; have HO_13 := n2_; have HO303 := n3_; have HB := n4_; clear n0_ n1_ n2_ n3_ n4_; (try clear hb); (try clear hkp)) | ((with_reducible refine gate_callee (f := 17) rfl ?_); refine goesL_ (some 81) rfl rfl Try.func17 (by kernel_rfl) rfl #[.slice Ao22 t288.length co22, .int .i64 t305] rfl (by (try simp only [List.map_toArray, List.map_cons, List.map_nil]); first | done | rfl | (simp only [List.length_drop, List.length_take]; rfl)) ?_; (with_reducible refine (laws_markIntS.calls kj12 (fun k_ => some k_ = (.slice Ao22 t288.length co22 : Value).ownBlock) (.slice Ao22 t288.length co22) t288 t305 t306 t307 w _ ?side1 ?side2 A41.out).mono ?_); (case side1 => repeat (first | (with_reducible first | exact HB.out | apply zBa | apply zBn | apply zBd) | exact HB.out)); (case side2 => exact Kd.R_tight rfl HO_12.out); rintro e w48 ⟨rfl, hy0, hb, hkp⟩; refine ⟨_, rfl, ?_⟩; have n0_ := Aside0.mk (Kd.R_mono (ok' := fun k_ => some k_ ≠ (.slice Ao22 t288.length co22 : Value).ownBlock ∧ some k_ ≠ (v294 : Value).ownBlock ∧ some k_ ≠ (.slice Ao46 t301.length co46 : Value).ownBlock) (Kd.R_keptB (HO_8.out) hkp (fun k_ hk_ hs_ => (hk_.1) hs_)) (fun k_ hk_ => ⟨hk_.1.1, hk_.1.2.1, hk_.1.2.2⟩)); have n1_ := Aside0.mk (Kd.R_reok rfl hy0 (fun k_ e_ => HO_12.out.1 k_ e_)); have n2_ := Aside0.mk (Kd.R_mono (ok' := fun k_ => some k_ ≠ (v283 : Value).ownBlock ∧ some k_ ≠ (.slice Ao22 t288.length co22 : Value).ownBlock ∧ some k_ ≠ (.slice Ao46 t301.length co46 : Value).ownBlock) (Kd.R_keptB (HO_13.out) hkp (fun k_ hk_ hs_ => (hk_.2.1) hs_)) (fun k_ hk_ => ⟨hk_.1.1, hk_.1.2.1, hk_.1.2.2⟩)); have n3_ := Aside0.mk (Kd.R_mono (ok' := fun k_ => some k_ ≠ (v283 : Value).ownBlock ∧ some k_ ≠ (.slice Ao22 t288.length co22 : Value).ownBlock ∧ some k_ ≠ (v294 : Value).ownBlock) (Kd.R_keptB (HO303.out) hkp (fun k_ hk_ hs_ => (hk_.2.1) hs_)) (fun k_ hk_ => ⟨hk_.1.1, hk_.1.2.1, hk_.1.2.2⟩)); have n4_ := Aside0.mk (hb); clear HO_8; clear HO_12; clear HO_13; clear HO303; clear HB; have HO_8 := n0_; have HO_12 := n1_; have HO_13 := n2_; have HO303 := n3_; have HB := n4_; clear n0_ n1_ n2_ n3_ n4_; (try clear hb); (try clear hkp); (try clear hy0)))
   (try simp only [Act.put, List.setIfInBounds_toArray, List.set_cons_zero, List.set_cons_succ])
   go_cut [99] (fun v99 wc => ∃ (kq : Nat) (x99_41 : Bool), v99 = .bool x99_41 ∧ Aside0 (laws_FnExactPassHints.j1 kq l0 l1 a2 t280 t281 t282 t291 x99_41 = some r) ∧ Aside0 (kq ≤ kj12) ∧ Aside0 (Kd.R (Kd.int .i64) 3 wc w.heap.size (fun k_ => some k_ ≠ (v294 : Value).ownBlock) v283 t280) ∧ Aside0 (Kd.R (Kd.int .i64) 3 wc w.heap.size (fun k_ => some k_ ≠ (v283 : Value).ownBlock) v294 t291) ∧ Aside0 (Below w.heap.size w wc))
   case first =>
    have H := HC42.out
    clear HC42
    by_cases c49 : t306 < 0
    case pos =>
     rw [if_pos c49] at H
     have c49b0 : decide (t306 < 0) = true := zE c49
     clear c49
     (first | rw [c49b0] | (simp only [i64_w, i32_w]; rw [c49b0]) | skip)
     have H' := Aside0.mk H
     clear H
     go_wp2
     go_meet
     case rel => exact ⟨_, (true), (by first | rfl | (simp; done) | (simp [*]; done)), H', ⟨by have := HJ12.out; first | omega | exact Nat.le_refl _⟩, ⟨by (with_reducible repeat (first | apply zRa | apply zRn | apply zRd)); first | exact Kd.R_mono HO_8.out (fun _ hk => hk.2.1) | (subst_vars; exact Kd.R_mono HO_8.out (fun _ hk => hk.2.1))⟩, ⟨by (with_reducible repeat (first | apply zRa | apply zRn | apply zRd)); first | exact Kd.R_mono HO_13.out (fun _ hk => hk.1) | (subst_vars; exact Kd.R_mono HO_13.out (fun _ hk => hk.1))⟩, ⟨by repeat (first | (with_reducible first | exact HB.out | apply zBa | apply zBn | apply zBd) | exact HB.out)⟩⟩
    rw [if_neg c49] at H
    have c49b0 : decide (t306 < 0) = false := decide_eq_false c49
    clear c49
    (first | rw [c49b0] | (simp only [i64_w, i32_w]; rw [c49b0]) | skip)
    replace H := Option.bind_eq_some_iff.mp H
    obtain ⟨t308, A500, H⟩ := H
    replace H : (if t308 = true then (if t292 = t281 then (laws_FnExactPassHints.j1 kj12 l0 l1 a2 t280 t281 t282 t291 (t293 != t282)) else (laws_FnExactPassHints.j1 kj12 l0 l1 a2 t280 t281 t282 t291 true)) else (laws_FnExactPassHints.j1 kj12 l0 l1 a2 t280 t281 t282 t291 true)) = some r := H
    have A50 := Aside0.mk A500
    clear A500
    by_cases c51 : t308 = true
    case neg =>
     replace c51 := Bool.eq_false_iff.mpr c51
     subst c51
     have H1 : (laws_FnExactPassHints.j1 kj12 l0 l1 a2 t280 t281 t282 t291 true) = some r := by rw [if_neg (show ¬ (false = true) by decide)] at H; exact H
     clear H
     have H := H1
     clear H1
     have H' := Aside0.mk H
     clear H
     obtain ⟨Ao57, co57, eo57⟩ := Kd.R_slice HO_13.out
     subst eo57
     obtain ⟨Ao58, co58, eo58⟩ := Kd.R_slice HO_8.out
     subst eo58
     go_wp2_with (first | (go_at_call 14; (with_reducible refine (laws_eqIntS.calls kj12 _ _ t291 _ _ t280 false _ ?side1 ?side2 ?side3 ?side4 A50.out).mono ?_); (case side1 => repeat (first | exact (Kd.R_reads' HO_13.out).2.2 | (with_reducible first | refine zCa ?_ _ | refine zCn ?_ _ | refine zCd ?_))); (case side2 => exact (Kd.R_reads' HO_13.out).2.1); (case side3 => repeat (first | exact (Kd.R_reads' HO_8.out).2.2 | (with_reducible first | refine zCa ?_ _ | refine zCn ?_ _ | refine zCd ?_))); (case side4 => exact (Kd.R_reads' HO_8.out).2.1); rintro e w' ⟨rfl, ⟨nd, rfl⟩⟩))
     go_meet
     case rel => exact ⟨_, (true), (by first | rfl | (simp; done) | (simp [*]; done)), H', ⟨by have := HJ12.out; first | omega | exact Nat.le_refl _⟩, ⟨by (with_reducible repeat (first | apply zRa | apply zRn | apply zRd)); first | exact Kd.R_mono HO_8.out (fun _ hk => hk.2.1) | (subst_vars; exact Kd.R_mono HO_8.out (fun _ hk => hk.2.1))⟩, ⟨by (with_reducible repeat (first | apply zRa | apply zRn | apply zRd)); first | exact Kd.R_mono HO_13.out (fun _ hk => hk.1) | (subst_vars; exact Kd.R_mono HO_13.out (fun _ hk => hk.1))⟩, ⟨by repeat (first | (with_reducible first | exact HB.out | apply zBa | apply zBn | apply zBd) | exact HB.out)⟩⟩
    subst c51
    have H1 : (if t292 = t281 then (laws_FnExactPassHints.j1 kj12 l0 l1 a2 t280 t281 t282 t291 (t293 != t282)) else (laws_FnExactPassHints.j1 kj12 l0 l1 a2 t280 t281 t282 t291 true)) = some r := by rw [if_pos rfl] at H; exact H
    clear H
    have H := H1
    clear H1
    by_cases c52 : t292 = t281
    case neg =>
     rw [if_neg c52] at H
     have c52b0 : (t292 == t281) = false := beq_eq_false_iff_ne.mpr c52
     have c52b1 : (t292 != t281) = true := bne_iff_ne.mpr c52
     have H' := Aside0.mk H
     clear H
     obtain ⟨Ao55, co55, eo55⟩ := Kd.R_slice HO_13.out
     subst eo55
     obtain ⟨Ao56, co56, eo56⟩ := Kd.R_slice HO_8.out
     subst eo56
     go_wp2_with (first | (go_at_call 14; (with_reducible refine (laws_eqIntS.calls kj12 _ _ t291 _ _ t280 true _ ?side1 ?side2 ?side3 ?side4 A50.out).mono ?_); (case side1 => repeat (first | exact (Kd.R_reads' HO_13.out).2.2 | (with_reducible first | refine zCa ?_ _ | refine zCn ?_ _ | refine zCd ?_))); (case side2 => exact (Kd.R_reads' HO_13.out).2.1); (case side3 => repeat (first | exact (Kd.R_reads' HO_8.out).2.2 | (with_reducible first | refine zCa ?_ _ | refine zCn ?_ _ | refine zCd ?_))); (case side4 => exact (Kd.R_reads' HO_8.out).2.1); rintro e w' ⟨rfl, ⟨nd, rfl⟩⟩))
     go_meet
     case rel => exact ⟨_, (true), (by first | rfl | (simp; done) | (simp [*]; done)), H', ⟨by have := HJ12.out; first | omega | exact Nat.le_refl _⟩, ⟨by (with_reducible repeat (first | apply zRa | apply zRn | apply zRd)); first | exact Kd.R_mono HO_8.out (fun _ hk => hk.2.1) | (subst_vars; exact Kd.R_mono HO_8.out (fun _ hk => hk.2.1))⟩, ⟨by (with_reducible repeat (first | apply zRa | apply zRn | apply zRd)); first | exact Kd.R_mono HO_13.out (fun _ hk => hk.1) | (subst_vars; exact Kd.R_mono HO_13.out (fun _ hk => hk.1))⟩, ⟨by repeat (first | (with_reducible first | exact HB.out | apply zBa | apply zBn | apply zBd) | exact HB.out)⟩⟩
    rw [if_pos c52] at H
    have c52b0 : (t292 == t281) = true := beq_iff_eq.mpr c52
    have c52b1 : (t292 != t281) = false := bne_eq_false_iff_eq.mpr c52
    clear c52
    have H' := Aside0.mk H
    clear H
    obtain ⟨Ao53, co53, eo53⟩ := Kd.R_slice HO_13.out
    subst eo53
    obtain ⟨Ao54, co54, eo54⟩ := Kd.R_slice HO_8.out
    subst eo54
    go_wp2_with (first | (go_at_call 14; (with_reducible refine (laws_eqIntS.calls kj12 _ _ t291 _ _ t280 true _ ?side1 ?side2 ?side3 ?side4 A50.out).mono ?_); (case side1 => repeat (first | exact (Kd.R_reads' HO_13.out).2.2 | (with_reducible first | refine zCa ?_ _ | refine zCn ?_ _ | refine zCd ?_))); (case side2 => exact (Kd.R_reads' HO_13.out).2.1); (case side3 => repeat (first | exact (Kd.R_reads' HO_8.out).2.2 | (with_reducible first | refine zCa ?_ _ | refine zCn ?_ _ | refine zCd ?_))); (case side4 => exact (Kd.R_reads' HO_8.out).2.1); rintro e w' ⟨rfl, ⟨nd, rfl⟩⟩))
    go_meet
    case rel => exact ⟨_, ((t293 != t282)), (by first | rfl | (simp; done) | (simp [*]; done)), H', ⟨by have := HJ12.out; first | omega | exact Nat.le_refl _⟩, ⟨by (with_reducible repeat (first | apply zRa | apply zRn | apply zRd)); first | exact Kd.R_mono HO_8.out (fun _ hk => hk.2.1) | (subst_vars; exact Kd.R_mono HO_8.out (fun _ hk => hk.2.1))⟩, ⟨by (with_reducible repeat (first | apply zRa | apply zRn | apply zRd)); first | exact Kd.R_mono HO_13.out (fun _ hk => hk.1) | (subst_vars; exact Kd.R_mono HO_13.out (fun _ hk => hk.1))⟩, ⟨by repeat (first | (with_reducible first | exact HB.out | apply zBa | apply zBn | apply zBd) | exact HB.out)⟩⟩
   case rest =>
    clear HC42
    try clear c1
    try clear c2
    try clear p2
    try clear c3
    try clear c4
    try clear c4b0
    try clear c4b1
    try clear c5
    try clear c6
    try clear c6b0
    try clear c9
    try clear c11
    try clear c12
    try clear c14
    try clear c15
    try clear c16
    try clear c17
    try clear c21
    try clear c22
    try clear c25
    try clear c26
    try clear c26b0
    try clear c26b1
    try clear c33
    try clear c36
    try clear c39
    try clear c49
    try clear c49b0
    try clear c51
    try clear c52
    try clear c52b0
    try clear c52b1
    try clear p2
    obtain ⟨kq, x99_41, rfl, HA, HJ41, HO_8, HO_13, HB⟩ := hcut
    cases kq with
    | zero => exact absurd HA.out (by simp [laws_FnExactPassHints.j1])
    | succ kj41 =>
     have H := HA.out
     clear HA
     simp only [laws_FnExactPassHints.j1] at H
     by_cases c59 : x99_41 = true
     case pos =>
      subst c59
      have H1 : (some false) = some r := by rw [if_pos rfl] at H; exact H
      clear H
      have H := H1
      clear H1
      exact absurd (Option.some.inj H) (by rw [hr_]; decide)
     replace c59 := Bool.eq_false_iff.mpr c59
     subst c59
     have H1 : ((laws_markIntS.f kj41 t291 1).bind fun bt309 => ((laws_heldIntS.f kj41 bt309.2 1).bind fun t311 => (if t311 < 0 then (some false) else (if t311 = bt309.1 then ((laws_toIntSS.f kj41 l0).bind fun t312 => ((laws_toIntS.f kj41 l1).bind fun t315 => ((impl_PassHints.f kj41 t312 t315 a2).bind fun bt318 => ((laws_eqIntS.f kj41 bt318.1 t280).bind fun t323 => (if t323 = true then (if bt318.2.1 = t281 then (laws_FnExactPassHints.j2 kj41 bt309.2 bt309.1 (bt318.2.2 != t282)) else (laws_FnExactPassHints.j2 kj41 bt309.2 bt309.1 true)) else (laws_FnExactPassHints.j2 kj41 bt309.2 bt309.1 true)))))) else (some false))))) = some r := by rw [if_neg (show ¬ (false = true) by decide)] at H; exact H
     clear H
     have H := H1
     clear H1
     replace H := Option.bind_eq_some_iff.mp H
     obtain ⟨⟨t309, t310⟩, A600, H⟩ := H
     replace H : ((laws_heldIntS.f kj41 t310 1).bind fun t311 => (if t311 < 0 then (some false) else (if t311 = t309 then ((laws_toIntSS.f kj41 l0).bind fun t312 => ((laws_toIntS.f kj41 l1).bind fun t315 => ((impl_PassHints.f kj41 t312 t315 a2).bind fun bt318 => ((laws_eqIntS.f kj41 bt318.1 t280).bind fun t323 => (if t323 = true then (if bt318.2.1 = t281 then (laws_FnExactPassHints.j2 kj41 t310 t309 (bt318.2.2 != t282)) else (laws_FnExactPassHints.j2 kj41 t310 t309 true)) else (laws_FnExactPassHints.j2 kj41 t310 t309 true)))))) else (some false)))) = some r := H
     have A60 := Aside0.mk A600
     clear A600
     replace H := Option.bind_eq_some_iff.mp H
     obtain ⟨t311, A610, H⟩ := H
     replace H : (if t311 < 0 then (some false) else (if t311 = t309 then ((laws_toIntSS.f kj41 l0).bind fun t312 => ((laws_toIntS.f kj41 l1).bind fun t315 => ((impl_PassHints.f kj41 t312 t315 a2).bind fun bt318 => ((laws_eqIntS.f kj41 bt318.1 t280).bind fun t323 => (if t323 = true then (if bt318.2.1 = t281 then (laws_FnExactPassHints.j2 kj41 t310 t309 (bt318.2.2 != t282)) else (laws_FnExactPassHints.j2 kj41 t310 t309 true)) else (laws_FnExactPassHints.j2 kj41 t310 t309 true)))))) else (some false))) = some r := H
     have A61 := Aside0.mk A610
     clear A610
     by_cases c62 : t311 < 0
     case pos =>
      rw [if_pos c62] at H
      have c62b0 : decide (t311 < 0) = true := zE c62
      clear c62
      exact absurd (Option.some.inj H) (by rw [hr_]; decide)
     rw [if_neg c62] at H
     have c62b0 : decide (t311 < 0) = false := decide_eq_false c62
     clear c62
     by_cases c63 : t311 = t309
     case neg =>
      rw [if_neg c63] at H
      have c63b0 : (t311 == t309) = false := beq_eq_false_iff_ne.mpr c63
      have c63b1 : (t311 != t309) = true := bne_iff_ne.mpr c63
      exact absurd (Option.some.inj H) (by rw [hr_]; decide)
     rw [if_pos c63] at H
     have c63b0 : (t311 == t309) = true := beq_iff_eq.mpr c63
     have c63b1 : (t311 != t309) = false := bne_eq_false_iff_eq.mpr c63
     clear c63
     replace H := Option.bind_eq_some_iff.mp H
     obtain ⟨t312, A640, H⟩ := H
     replace H : ((laws_toIntS.f kj41 l1).bind fun t315 => ((impl_PassHints.f kj41 t312 t315 a2).bind fun bt318 => ((laws_eqIntS.f kj41 bt318.1 t280).bind fun t323 => (if t323 = true then (if bt318.2.1 = t281 then (laws_FnExactPassHints.j2 kj41 t310 t309 (bt318.2.2 != t282)) else (laws_FnExactPassHints.j2 kj41 t310 t309 true)) else (laws_FnExactPassHints.j2 kj41 t310 t309 true))))) = some r := H
     have A64 := Aside0.mk A640
     clear A640
     replace H := Option.bind_eq_some_iff.mp H
     obtain ⟨t315, A650, H⟩ := H
     replace H : ((impl_PassHints.f kj41 t312 t315 a2).bind fun bt318 => ((laws_eqIntS.f kj41 bt318.1 t280).bind fun t323 => (if t323 = true then (if bt318.2.1 = t281 then (laws_FnExactPassHints.j2 kj41 t310 t309 (bt318.2.2 != t282)) else (laws_FnExactPassHints.j2 kj41 t310 t309 true)) else (laws_FnExactPassHints.j2 kj41 t310 t309 true)))) = some r := H
     have A65 := Aside0.mk A650
     clear A650
     replace H := Option.bind_eq_some_iff.mp H
     obtain ⟨⟨t318, t319, t320⟩, A660, H⟩ := H
     replace H : ((laws_eqIntS.f kj41 t318 t280).bind fun t323 => (if t323 = true then (if t319 = t281 then (laws_FnExactPassHints.j2 kj41 t310 t309 (t320 != t282)) else (laws_FnExactPassHints.j2 kj41 t310 t309 true)) else (laws_FnExactPassHints.j2 kj41 t310 t309 true))) = some r := H
     have A66 := Aside0.mk A660
     clear A660
     have HC67 := Aside0.mk H
     clear H
     obtain ⟨Ao68, co68, eo68⟩ := Kd.R_slice HO_13.out
     subst eo68
     go_upto_region 31 with (first | ((with_reducible refine gate_callee (f := 17) rfl ?_); refine goesL_ (some 102) rfl rfl Try.func17 (by kernel_rfl) rfl #[.slice Ao68 t291.length co68, .int .i64 1] rfl (by (try simp only [List.map_toArray, List.map_cons, List.map_nil]); first | done | rfl | (simp only [List.length_drop, List.length_take]; rfl)) ?_; (with_reducible refine (laws_markIntS.calls kj41 (fun k_ => some k_ = (.slice Ao68 t291.length co68 : Value).ownBlock) (.slice Ao68 t291.length co68) t291 1 t309 t310 w _ ?side1 ?side2 A60.out).mono ?_); (case side1 => repeat (first | (with_reducible first | exact HB.out | apply zBa | apply zBn | apply zBd) | exact HB.out)); (case side2 => exact Kd.R_tight rfl HO_13.out); rintro e w69 ⟨rfl, hy0, hb, hkp⟩; refine ⟨_, rfl, ?_⟩; have n0_ := Aside0.mk (Kd.R_mono (ok' := fun k_ => some k_ ≠ (.slice Ao68 t291.length co68 : Value).ownBlock) (Kd.R_keptB (HO_8.out) hkp (fun k_ hk_ hs_ => (hk_) hs_)) (fun k_ hk_ => hk_.1)); have n1_ := Aside0.mk (Kd.R_reok rfl hy0 (fun k_ e_ => HO_13.out.1 k_ e_)); have n2_ := Aside0.mk (hb); clear HO_8; clear HO_13; clear HB; have HO_8 := n0_; have HO_13 := n1_; have HB := n2_; clear n0_ n1_ n2_; (try clear hb); (try clear hkp); (try clear hy0)) | ((with_reducible refine gate_callee (f := 18) rfl ?_); refine goesL_ (some 105) rfl rfl Try.func18 (by kernel_rfl) rfl #[.slice Ao68 t310.length co68, .int .i64 1] rfl (by (try simp only [List.map_toArray, List.map_cons, List.map_nil]); first | done | (rw [show t310.length = t291.length from (Kd.R_reads' HO_13.out).1.symm] <;> rfl) | rfl | (simp only [List.length_drop, List.length_take]; rfl)) ?_; (with_reducible refine (laws_heldIntS.calls kj41 _ _ t310 1 t311 _ ?side1 ?side2 A61.out).mono ?_); (case side1 => repeat (first | exact (Kd.R_reads' HO_13.out).2.2 | (with_reducible first | refine zCa ?_ _ | refine zCn ?_ _ | refine zCd ?_))); (case side2 => rw [show t310.length = t291.length from (Kd.R_reads' HO_13.out).1.symm]; exact (Kd.R_reads' HO_13.out).2.1); rintro e w' ⟨rfl, ⟨nd, rfl⟩⟩; refine ⟨_, rfl, ?_⟩) | ((with_reducible refine gate_callee (f := 11) rfl ?_); refine goesL_ (some 113) rfl rfl Try.func11 (by kernel_rfl) rfl #[.slice A0 l0.length c0] rfl (by (try simp only [List.map_toArray, List.map_cons, List.map_nil]); first | done | rfl | (simp only [List.length_drop, List.length_take]; rfl)) ?_; (with_reducible refine (laws_toIntSS.calls kj41 _ _ l0 t312 _ ?side1 ?side2 A64.out).mono ?_); (case side1 => repeat (first | exact (Kd.C_below HR0.out (by repeat (first | (with_reducible first | exact HB.out | apply zBa | apply zBn | apply zBd) | exact HB.out))) | (with_reducible first | refine zCa ?_ _ | refine zCn ?_ _ | refine zCd ?_))); (case side2 => exact HC0.out); rintro e w70 ⟨v313, rfl, ho0, hb⟩; refine ⟨_, rfl, ?_⟩; have n0_ := Aside0.mk (Kd.R_below (by (with_reducible repeat (first | apply zRa | apply zRn | apply zRd)); first | exact HO_8.out | (subst_vars; exact HO_8.out)) hb); have n1_ := Aside0.mk (Kd.R_below (by (with_reducible repeat (first | apply zRa | apply zRn | apply zRd)); first | exact HO_13.out | (subst_vars; exact HO_13.out)) hb); have n2_ := Aside0.mk (Kd.S_lower (Kd.S_new' (Kd.S_new' ho0 (Kd.R_lt (by (with_reducible repeat (first | apply zRa | apply zRn | apply zRd)); first | exact HO_8.out | (subst_vars; exact HO_8.out)))) (Kd.R_lt (by (with_reducible repeat (first | apply zRa | apply zRn | apply zRd)); first | exact HO_13.out | (subst_vars; exact HO_13.out)))) (below_size (by repeat (first | (with_reducible first | exact HB.out | apply zBa | apply zBn | apply zBd) | exact HB.out)))); have n3_ := Aside0.mk (below_step (by repeat (first | (with_reducible first | exact HB.out | apply zBa | apply zBn | apply zBd) | exact HB.out)) hb); clear HO_8; clear HO_13; clear HB; have HO_8 := n0_; have HO_13 := n1_; have HO314 := n2_; have HB := n3_; clear n0_ n1_ n2_ n3_; (try clear hb); (try clear hb2); (try clear hk); (try clear hi); (try clear ho0)) | ((with_reducible refine gate_callee (f := 12) rfl ?_); refine goesL_ (some 115) rfl rfl Try.func12 (by kernel_rfl) rfl #[.slice A1 l1.length c1] rfl (by (try simp only [List.map_toArray, List.map_cons, List.map_nil]); first | done | rfl | (simp only [List.length_drop, List.length_take]; rfl)) ?_; (with_reducible refine (laws_toIntS.calls kj41 _ _ l1 t315 _ ?side1 ?side2 A65.out).mono ?_); (case side1 => repeat (first | exact (Kd.C_below HR1.out HB.out) | (with_reducible first | refine zCa ?_ _ | refine zCn ?_ _ | refine zCd ?_))); (case side2 => exact HC1.out); rintro e w71 ⟨v316, rfl, ho0, hb⟩; refine ⟨_, rfl, ?_⟩; have n0_ := Aside0.mk (Kd.R_elder' (by (with_reducible repeat (first | apply zRa | apply zRn | apply zRd)); first | exact HO_8.out | (subst_vars; exact HO_8.out)) (Kd.R_base ho0) hb); have n1_ := Aside0.mk (Kd.R_elder' (by (with_reducible repeat (first | apply zRa | apply zRn | apply zRd)); first | exact HO_13.out | (subst_vars; exact HO_13.out)) (Kd.R_base ho0) hb); have n2_ := Aside0.mk (Kd.S_elder' (by (with_reducible repeat (first | apply Kd.S_alloc | apply Kd.S_drewN | apply Kd.S_drew)); first | exact HO314.out | (subst_vars; exact HO314.out)) (Kd.R_base ho0) hb); have n3_ := Aside0.mk (Kd.R_lower (Kd.R_new' (Kd.R_new' ho0 (Kd.R_lt (by (with_reducible repeat (first | apply zRa | apply zRn | apply zRd)); first | exact HO_8.out | (subst_vars; exact HO_8.out)))) (Kd.R_lt (by (with_reducible repeat (first | apply zRa | apply zRn | apply zRd)); first | exact HO_13.out | (subst_vars; exact HO_13.out)))) (below_size (by repeat (first | (with_reducible first | exact HB.out | apply zBa | apply zBn | apply zBd) | exact HB.out)))); have n4_ := Aside0.mk (below_step (by repeat (first | (with_reducible first | exact HB.out | apply zBa | apply zBn | apply zBd) | exact HB.out)) hb); clear HO_8; clear HO_13; clear HO314; clear HB; have HO_8 := n0_; have HO_13 := n1_; have HO314 := n2_; have HO317 := n3_; have HB := n4_; clear n0_ n1_ n2_ n3_ n4_; (try clear hb); (try clear hb2); (try clear hk); (try clear hi); (try clear ho0); obtain ⟨Ao72, co72, eo72⟩ := Kd.S_slice HO314.out; subst eo72; obtain ⟨Ao73, co73, eo73⟩ := Kd.R_slice HO317.out; subst eo73) | ((with_reducible refine gate_callee (f := 22) rfl ?_); refine goesL_ (some 117) rfl rfl Try.func22 (by kernel_rfl) rfl #[.slice Ao72 t312.length co72, .slice Ao73 t315.length co73, .int .i64 a2] rfl (by (try simp only [List.map_toArray, List.map_cons, List.map_nil]); first | done | rfl | (simp only [List.length_drop, List.length_take]; rfl)) ?_; (with_reducible refine (impl_PassHints.calls kj41 _ _ t312 _ _ t315 a2 t318 t319 t320 _ ?side1 ?side2 ?side3 ?side4 A66.out).mono ?_); (case side1 => repeat (first | exact (Kd.S_reads' HO314.out).2.2 | (with_reducible first | refine zCa ?_ _ | refine zCn ?_ _ | refine zCd ?_))); (case side2 => exact (Kd.S_reads' HO314.out).2.1); (case side3 => repeat (first | exact (Kd.R_reads' HO317.out).2.2 | (with_reducible first | refine zCa ?_ _ | refine zCn ?_ _ | refine zCd ?_))); (case side4 => exact (Kd.R_reads' HO317.out).2.1); rintro e w74 ⟨v321, rfl, ho0, hb⟩; refine ⟨_, rfl, ?_⟩; have n0_ := Aside0.mk (Kd.R_elder' (by (with_reducible repeat (first | apply zRa | apply zRn | apply zRd)); first | exact HO_8.out | (subst_vars; exact HO_8.out)) (Kd.R_base ho0) hb); have n1_ := Aside0.mk (Kd.R_elder' (by (with_reducible repeat (first | apply zRa | apply zRn | apply zRd)); first | exact HO_13.out | (subst_vars; exact HO_13.out)) (Kd.R_base ho0) hb); have n2_ := Aside0.mk (Kd.S_elder' (by (with_reducible repeat (first | apply Kd.S_alloc | apply Kd.S_drewN | apply Kd.S_drew)); first | exact HO314.out | (subst_vars; exact HO314.out)) (Kd.R_base ho0) hb); have n3_ := Aside0.mk (Kd.R_elder' (by (with_reducible repeat (first | apply zRa | apply zRn | apply zRd)); first | exact HO317.out | (subst_vars; exact HO317.out)) (Kd.R_base ho0) hb); have n4_ := Aside0.mk (Kd.R_lower (Kd.R_new' (Kd.R_new' (Kd.R_new' ho0 (Kd.R_lt (by (with_reducible repeat (first | apply zRa | apply zRn | apply zRd)); first | exact HO_8.out | (subst_vars; exact HO_8.out)))) (Kd.R_lt (by (with_reducible repeat (first | apply zRa | apply zRn | apply zRd)); first | exact HO_13.out | (subst_vars; exact HO_13.out)))) (Kd.R_lt (by (with_reducible repeat (first | apply zRa | apply zRn | apply zRd)); first | exact HO317.out | (subst_vars; exact HO317.out)))) (below_size (by repeat (first | (with_reducible first | exact HB.out | apply zBa | apply zBn | apply zBd) | exact HB.out)))); have n5_ := Aside0.mk (below_step (by repeat (first | (with_reducible first | exact HB.out | apply zBa | apply zBn | apply zBd) | exact HB.out)) hb); clear HO_8; clear HO_13; clear HO314; clear HO317; clear HB; have HO_8 := n0_; have HO_13 := n1_; have HO314 := n2_; have HO317 := n3_; have HO322 := n4_; have HB := n5_; clear n0_ n1_ n2_ n3_ n4_ n5_; (try clear hb); (try clear hb2); (try clear hk); (try clear hi); (try clear ho0)))
     (try simp only [Act.put, List.setIfInBounds_toArray, List.set_cons_zero, List.set_cons_succ])
     go_cut [134] (fun v134 wc => ∃ (kq : Nat) (x134_66 : Bool), v134 = .bool x134_66 ∧ Aside0 (laws_FnExactPassHints.j2 kq t310 t309 x134_66 = some r) ∧ Aside0 (kq ≤ kj41) ∧ Aside0 (Kd.R (Kd.int .i64) 3 wc w.heap.size (fun _ => True) (.slice Ao68 t291.length co68) t310) ∧ Aside0 (Below w.heap.size w wc))
     case first =>
      have H := HC67.out
      clear HC67
      replace H := Option.bind_eq_some_iff.mp H
      obtain ⟨t323, A750, H⟩ := H
      replace H : (if t323 = true then (if t319 = t281 then (laws_FnExactPassHints.j2 kj41 t310 t309 (t320 != t282)) else (laws_FnExactPassHints.j2 kj41 t310 t309 true)) else (laws_FnExactPassHints.j2 kj41 t310 t309 true)) = some r := H
      have A75 := Aside0.mk A750
      clear A750
      by_cases c76 : t323 = true
      case neg =>
       replace c76 := Bool.eq_false_iff.mpr c76
       subst c76
       have H1 : (laws_FnExactPassHints.j2 kj41 t310 t309 true) = some r := by rw [if_neg (show ¬ (false = true) by decide)] at H; exact H
       clear H
       have H := H1
       clear H1
       have H' := Aside0.mk H
       clear H
       obtain ⟨Ao82, co82, eo82⟩ := Kd.R_slice HO322.out
       subst eo82
       obtain ⟨Ao83, co83, eo83⟩ := Kd.R_slice HO_8.out
       subst eo83
       go_wp2_with (first | ((with_reducible refine gate_callee (f := 14) rfl ?_); refine goesL_ (some 123) rfl rfl Try.func14 (by kernel_rfl) rfl #[.slice Ao82 t318.length co82, .slice Ao83 t280.length co83] rfl (by (try simp only [List.map_toArray, List.map_cons, List.map_nil]); first | done | rfl | (simp only [List.length_drop, List.length_take]; rfl)) ?_; (with_reducible refine (laws_eqIntS.calls kj41 _ _ t318 _ _ t280 false _ ?side1 ?side2 ?side3 ?side4 A75.out).mono ?_); (case side1 => repeat (first | exact (Kd.R_reads' HO322.out).2.2 | (with_reducible first | refine zCa ?_ _ | refine zCn ?_ _ | refine zCd ?_))); (case side2 => exact (Kd.R_reads' HO322.out).2.1); (case side3 => repeat (first | exact (Kd.R_reads' HO_8.out).2.2 | (with_reducible first | refine zCa ?_ _ | refine zCn ?_ _ | refine zCd ?_))); (case side4 => exact (Kd.R_reads' HO_8.out).2.1); rintro e w' ⟨rfl, ⟨nd, rfl⟩⟩; refine ⟨_, rfl, ?_⟩))
       go_meet
       case rel => exact ⟨_, (true), (by first | rfl | (simp; done) | (simp [*]; done)), H', ⟨by have := HJ12.out; have := HJ41.out; first | omega | exact Nat.le_refl _⟩, ⟨by (with_reducible repeat (first | apply zRa | apply zRn | apply zRd)); first | exact Kd.R_mono HO_13.out (fun _ hk => trivial) | (subst_vars; exact Kd.R_mono HO_13.out (fun _ hk => trivial))⟩, ⟨by repeat (first | (with_reducible first | exact HB.out | apply zBa | apply zBn | apply zBd) | exact HB.out)⟩⟩
      subst c76
      have H1 : (if t319 = t281 then (laws_FnExactPassHints.j2 kj41 t310 t309 (t320 != t282)) else (laws_FnExactPassHints.j2 kj41 t310 t309 true)) = some r := by rw [if_pos rfl] at H; exact H
      clear H
      have H := H1
      clear H1
      by_cases c77 : t319 = t281
      case neg =>
       rw [if_neg c77] at H
       have c77b0 : (t319 == t281) = false := beq_eq_false_iff_ne.mpr c77
       have c77b1 : (t319 != t281) = true := bne_iff_ne.mpr c77
       (first | rw [c77b0] | (simp only [i64_w, i32_w]; rw [c77b0]) | skip)
       have H' := Aside0.mk H
       clear H
       obtain ⟨Ao80, co80, eo80⟩ := Kd.R_slice HO322.out
       subst eo80
       obtain ⟨Ao81, co81, eo81⟩ := Kd.R_slice HO_8.out
       subst eo81
       go_wp2_with (first | ((with_reducible refine gate_callee (f := 14) rfl ?_); refine goesL_ (some 123) rfl rfl Try.func14 (by kernel_rfl) rfl #[.slice Ao80 t318.length co80, .slice Ao81 t280.length co81] rfl (by (try simp only [List.map_toArray, List.map_cons, List.map_nil]); first | done | rfl | (simp only [List.length_drop, List.length_take]; rfl)) ?_; (with_reducible refine (laws_eqIntS.calls kj41 _ _ t318 _ _ t280 true _ ?side1 ?side2 ?side3 ?side4 A75.out).mono ?_); (case side1 => repeat (first | exact (Kd.R_reads' HO322.out).2.2 | (with_reducible first | refine zCa ?_ _ | refine zCn ?_ _ | refine zCd ?_))); (case side2 => exact (Kd.R_reads' HO322.out).2.1); (case side3 => repeat (first | exact (Kd.R_reads' HO_8.out).2.2 | (with_reducible first | refine zCa ?_ _ | refine zCn ?_ _ | refine zCd ?_))); (case side4 => exact (Kd.R_reads' HO_8.out).2.1); rintro e w' ⟨rfl, ⟨nd, rfl⟩⟩; refine ⟨_, rfl, ?_⟩))
       go_meet
       case rel => exact ⟨_, (true), (by first | rfl | (simp; done) | (simp [*]; done)), H', ⟨by have := HJ12.out; have := HJ41.out; first | omega | exact Nat.le_refl _⟩, ⟨by (with_reducible repeat (first | apply zRa | apply zRn | apply zRd)); first | exact Kd.R_mono HO_13.out (fun _ hk => trivial) | (subst_vars; exact Kd.R_mono HO_13.out (fun _ hk => trivial))⟩, ⟨by repeat (first | (with_reducible first | exact HB.out | apply zBa | apply zBn | apply zBd) | exact HB.out)⟩⟩
      rw [if_pos c77] at H
      have c77b0 : (t319 == t281) = true := beq_iff_eq.mpr c77
      have c77b1 : (t319 != t281) = false := bne_eq_false_iff_eq.mpr c77
      clear c77
      (first | rw [c77b0] | (simp only [i64_w, i32_w]; rw [c77b0]) | skip)
      have H' := Aside0.mk H
      clear H
      obtain ⟨Ao78, co78, eo78⟩ := Kd.R_slice HO322.out
      subst eo78
      obtain ⟨Ao79, co79, eo79⟩ := Kd.R_slice HO_8.out
      subst eo79
      go_wp2_with (first | ((with_reducible refine gate_callee (f := 14) rfl ?_); refine goesL_ (some 123) rfl rfl Try.func14 (by kernel_rfl) rfl #[.slice Ao78 t318.length co78, .slice Ao79 t280.length co79] rfl (by (try simp only [List.map_toArray, List.map_cons, List.map_nil]); first | done | rfl | (simp only [List.length_drop, List.length_take]; rfl)) ?_; (with_reducible refine (laws_eqIntS.calls kj41 _ _ t318 _ _ t280 true _ ?side1 ?side2 ?side3 ?side4 A75.out).mono ?_); (case side1 => repeat (first | exact (Kd.R_reads' HO322.out).2.2 | (with_reducible first | refine zCa ?_ _ | refine zCn ?_ _ | refine zCd ?_))); (case side2 => exact (Kd.R_reads' HO322.out).2.1); (case side3 => repeat (first | exact (Kd.R_reads' HO_8.out).2.2 | (with_reducible first | refine zCa ?_ _ | refine zCn ?_ _ | refine zCd ?_))); (case side4 => exact (Kd.R_reads' HO_8.out).2.1); rintro e w' ⟨rfl, ⟨nd, rfl⟩⟩; refine ⟨_, rfl, ?_⟩))
      go_meet
      case rel => exact ⟨_, ((t320 != t282)), (by first | rfl | (simp; done) | (simp [*]; done)), H', ⟨by have := HJ12.out; have := HJ41.out; first | omega | exact Nat.le_refl _⟩, ⟨by (with_reducible repeat (first | apply zRa | apply zRn | apply zRd)); first | exact Kd.R_mono HO_13.out (fun _ hk => trivial) | (subst_vars; exact Kd.R_mono HO_13.out (fun _ hk => trivial))⟩, ⟨by repeat (first | (with_reducible first | exact HB.out | apply zBa | apply zBn | apply zBd) | exact HB.out)⟩⟩
     case rest =>
      clear HC67
      try clear c1
      try clear c2
      try clear p2
      try clear c3
      try clear c4
      try clear c4b0
      try clear c4b1
      try clear c5
      try clear c6
      try clear c6b0
      try clear c7
      try clear c9
      try clear c11
      try clear c12
      try clear c14
      try clear c15
      try clear c16
      try clear c17
      try clear c18
      try clear c21
      try clear c22
      try clear c25
      try clear c26
      try clear c26b0
      try clear c26b1
      try clear c33
      try clear c36
      try clear c39
      try clear c49
      try clear c49b0
      try clear c51
      try clear c52
      try clear c52b0
      try clear c52b1
      try clear c59
      try clear c62
      try clear c62b0
      try clear c63
      try clear c63b0
      try clear c63b1
      try clear c76
      try clear c77
      try clear c77b0
      try clear c77b1
      try clear p2
      obtain ⟨kq, x134_66, rfl, HA, HJ66, HO_13, HB⟩ := hcut
      have hl13_66 := (Kd.R_reads' HO_13.out).1
      rw [hl13_66] at HO_13
      (try simp only [hl13_66])
      cases kq with
      | zero => exact absurd HA.out (by simp [laws_FnExactPassHints.j2])
      | succ kj66 =>
       have H := HA.out
       clear HA
       simp only [laws_FnExactPassHints.j2] at H
       by_cases c84 : x134_66 = true
       case pos =>
        subst c84
        have H1 : (some false) = some r := by rw [if_pos rfl] at H; exact H
        clear H
        have H := H1
        clear H1
        exact absurd (Option.some.inj H) (by rw [hr_]; decide)
       replace c84 := Bool.eq_false_iff.mpr c84
       subst c84
       have H1 : ((laws_heldIntS.f kj66 t310 1).bind fun t324 => (if t324 < 0 then (some false) else (if t324 = t309 then (some true) else (some false)))) = some r := by rw [if_neg (show ¬ (false = true) by decide)] at H; exact H
       clear H
       have H := H1
       clear H1
       replace H := Option.bind_eq_some_iff.mp H
       obtain ⟨t324, A850, H⟩ := H
       replace H : (if t324 < 0 then (some false) else (if t324 = t309 then (some true) else (some false))) = some r := H
       have A85 := Aside0.mk A850
       clear A850
       by_cases c86 : t324 < 0
       case pos =>
        rw [if_pos c86] at H
        have c86b0 : decide (t324 < 0) = true := zE c86
        (try (have c86w_hl13_66 := c86b0; simp only [hl13_66] at c86w_hl13_66))
        clear c86
        exact absurd (Option.some.inj H) (by rw [hr_]; decide)
       rw [if_neg c86] at H
       have c86b0 : decide (t324 < 0) = false := decide_eq_false c86
       (try (have c86w_hl13_66 := c86b0; simp only [hl13_66] at c86w_hl13_66))
       clear c86
       by_cases c87 : t324 = t309
       case neg =>
        rw [if_neg c87] at H
        have c87b0 : (t324 == t309) = false := beq_eq_false_iff_ne.mpr c87
        have c87b1 : (t324 != t309) = true := bne_iff_ne.mpr c87
        (try (have c87w_hl13_66 := c87b0; simp only [hl13_66] at c87w_hl13_66))
        exact absurd (Option.some.inj H) (by rw [hr_]; decide)
       rw [if_pos c87] at H
       have c87b0 : (t324 == t309) = true := beq_iff_eq.mpr c87
       have c87b1 : (t324 != t309) = false := bne_eq_false_iff_eq.mpr c87
       (try (have c87w_hl13_66 := c87b0; simp only [hl13_66] at c87w_hl13_66))
       clear c87
       obtain rfl := Option.some.inj H
       go_wp2_with (first | ((with_reducible refine gate_callee (f := 18) rfl ?_); refine goesL_ (some 137) rfl rfl Try.func18 (by kernel_rfl) rfl #[.slice Ao68 t310.length co68, .int .i64 1] rfl (by (try simp only [List.map_toArray, List.map_cons, List.map_nil]); first | done | rfl | (simp only [List.length_drop, List.length_take]; rfl)) ?_; (with_reducible refine (laws_heldIntS.calls kj66 _ _ t310 1 t324 _ ?side1 ?side2 A85.out).mono ?_); (case side1 => repeat (first | exact (Kd.R_reads' HO_13.out).2.2 | (with_reducible first | refine zCa ?_ _ | refine zCn ?_ _ | refine zCd ?_))); (case side2 => exact (Kd.R_reads' HO_13.out).2.1); rintro e w' ⟨rfl, ⟨nd, rfl⟩⟩; refine ⟨_, rfl, ?_⟩))
       go_ret
       exact ⟨by first | rfl | (simp [errW_none, errW_some] <;> rfl) | (simp [*, errW_none, errW_some] <;> rfl), by repeat (first | (with_reducible first | exact HB.out | apply zBa | apply zBn | apply zBd) | exact HB.out)⟩

end Go.Proofs.Ytpphjbogijjnpaa.PFnExactPassHints
