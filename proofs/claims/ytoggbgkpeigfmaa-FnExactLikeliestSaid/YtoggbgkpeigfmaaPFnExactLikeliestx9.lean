-- Written by a turned copy of the print (see the notes of this repo): plain functions and their walks. Lean checks it.
import Derived.Test.YtoggbgkpeigfmaaPFnExactLikeliestx0
import Derived.Test.YtoggbgkpeigfmaaPFnExactLikeliestx2
import Derived.Test.YtoggbgkpeigfmaaPFnExactLikeliestx7
import Derived.Test.YtoggbgkpeigfmaaPFnExactLikeliestx8
namespace Go.Proofs.Ytoggbgkpeigfmaa.PFnExactLikeliest
open Go.RowKit Go.Proofs.YtoggbgkpeigfmaaW.PrintWords Go.Proofs.YtoggbgkpeigfmaaW.PrintLast Go.Proofs.YtoggbgkpeigfmaaW.PrintMore
attribute [local go_sem] max2_int min2_int max_two min_two max_three min_three max_four min_four   -- for this text's walks alone
set_option linter.unusedVariables false
set_option linter.unusedSimpArgs false

/-! ### laws_FnExactLikeliest: function 4 -/
mutual
def laws_FnExactLikeliest.j0 : Nat → Int → Int → Int → List Int → List Int → Int → Bool → List Int → List Int → Int → Bool → Bool → Option (Bool)
 | 0, _, _, _, _, _, _, _, _, _, _, _, _ => none
 | k + 1, x0, x1, x2, x3, x9, x10, x11, x12, x13, x14, x15, x59 => if x59 = true then (some false) else ((laws_toIntS.f k x3).bind fun t154 => ((laws_eqIntS.f k x12 t154).bind fun t157 => (if t157 = true then ((laws_markIntS.f k x12 1).bind fun bt158 => (if bt158.1 < 0 then (laws_FnExactLikeliest.j1 k x0 x1 x2 x3 x9 x10 x11 x13 true) else ((laws_eqIntS.f k x13 x9).bind fun t160 => (if t160 = true then (if x14 = x10 then (laws_FnExactLikeliest.j1 k x0 x1 x2 x3 x9 x10 x11 x13 (x15 != x11)) else (laws_FnExactLikeliest.j1 k x0 x1 x2 x3 x9 x10 x11 x13 true)) else (laws_FnExactLikeliest.j1 k x0 x1 x2 x3 x9 x10 x11 x13 true))))) else (some false))))
def laws_FnExactLikeliest.j1 : Nat → Int → Int → Int → List Int → List Int → Int → Bool → List Int → Bool → Option (Bool)
 | 0, _, _, _, _, _, _, _, _, _ => none
 | k + 1, x0, x1, x2, x3, x9, x10, x11, x13, x85 => if x85 = true then (some false) else ((laws_markIntS.f k x13 1).bind fun bt161 => ((laws_heldIntS.f k bt161.2 1).bind fun t163 => (if t163 < 0 then (some false) else (if t163 = bt161.1 then ((laws_toIntS.f k x3).bind fun t164 => ((impl_Likeliest.f k x0 x1 x2 t164).bind fun bt167 => ((laws_eqIntS.f k bt167.1 x9).bind fun t172 => (if t172 = true then (if bt167.2.1 = x10 then (laws_FnExactLikeliest.j2 k bt161.2 bt161.1 (bt167.2.2 != x11)) else (laws_FnExactLikeliest.j2 k bt161.2 bt161.1 true)) else (laws_FnExactLikeliest.j2 k bt161.2 bt161.1 true))))) else (some false)))))
def laws_FnExactLikeliest.j2 : Nat → List Int → Int → Bool → Option (Bool)
 | 0, _, _, _ => none
 | k + 1, x13, x17, x120 => if x120 = true then (some false) else ((laws_heldIntS.f k x13 1).bind fun t173 => (if t173 < 0 then (some false) else (if t173 = x17 then (some true) else (some false))))
end
def laws_FnExactLikeliest.f (k : Nat) (a0 : Int) (a1 : Int) (a2 : Int) (l3 : List Int) : Option (Bool) := if (l3.length : Int) > 1048576 then (some true) else ((laws_toIntS.f k l3).bind fun t137 => ((spec_Likeliest.f k a0 a1 a2 t137).bind fun bt140 => ((laws_toIntS.f k l3).bind fun t145 => ((impl_Likeliest.f k a0 a1 a2 t145).bind fun bt148 => ((laws_eqIntS.f k bt148.1 bt140.1).bind fun t153 => (if t153 = true then (if bt148.2.1 = bt140.2.1 then (laws_FnExactLikeliest.j0 k a0 a1 a2 l3 bt140.1 bt140.2.1 bt140.2.2 t145 bt148.1 bt148.2.1 bt148.2.2 (bt148.2.2 != bt140.2.2)) else (laws_FnExactLikeliest.j0 k a0 a1 a2 l3 bt140.1 bt140.2.1 bt140.2.2 t145 bt148.1 bt148.2.1 bt148.2.2 true)) else (laws_FnExactLikeliest.j0 k a0 a1 a2 l3 bt140.1 bt140.2.1 bt140.2.2 t145 bt148.1 bt148.2.1 bt148.2.2 true)))))))
theorem laws_FnExactLikeliest.mono_l : ∀ k, (∀ y0 y1 y2 y3 y4 y5 y6 y7 y8 y9 y10 y11, LeO (laws_FnExactLikeliest.j0 k y0 y1 y2 y3 y4 y5 y6 y7 y8 y9 y10 y11) (laws_FnExactLikeliest.j0 (k + 1) y0 y1 y2 y3 y4 y5 y6 y7 y8 y9 y10 y11)) ∧ (∀ y0 y1 y2 y3 y4 y5 y6 y7 y8, LeO (laws_FnExactLikeliest.j1 k y0 y1 y2 y3 y4 y5 y6 y7 y8) (laws_FnExactLikeliest.j1 (k + 1) y0 y1 y2 y3 y4 y5 y6 y7 y8)) ∧ (∀ y0 y1 y2, LeO (laws_FnExactLikeliest.j2 k y0 y1 y2) (laws_FnExactLikeliest.j2 (k + 1) y0 y1 y2))
 | 0 => ⟨fun _ _ _ _ _ _ _ _ _ _ _ _ r h => by simp [laws_FnExactLikeliest.j0] at h, fun _ _ _ _ _ _ _ _ _ r h => by simp [laws_FnExactLikeliest.j1] at h, fun _ _ _ r h => by simp [laws_FnExactLikeliest.j2] at h⟩
 | k + 1 => by
  obtain ⟨ih0, ih1, ih2⟩ := laws_FnExactLikeliest.mono_l k
  refine ⟨?_, ?_, ?_⟩
  ·intro y0 y1 y2 y3 y4 y5 y6 y7 y8 y9 y10 y11
   unfold laws_FnExactLikeliest.j0
   repeat' first
   | (with_reducible exact ih0 _ _ _ _ _ _ _ _ _ _ _ _)
   | (with_reducible exact ih1 _ _ _ _ _ _ _ _ _)
   | (with_reducible exact ih2 _ _ _)
   | (with_reducible exact impl_Likeliest.mono _ _ _ _ _)
   | (with_reducible exact laws_eqIntS.mono _ _ _)
   | (with_reducible exact laws_heldIntS.mono _ _ _)
   | (with_reducible exact laws_markIntS.mono _ _ _)
   | (with_reducible exact laws_toIntS.mono _ _)
   | (with_reducible exact spec_Likeliest.mono _ _ _ _ _)
   | (with_reducible exact LeO.refl _)
   | (with_reducible exact LeO.none _)
   | (with_reducible refine LeO.ite ?_ ?_)
   | (with_reducible refine LeO.bind ?_ (fun _ => ?_))
   | exact ih0 _ _ _ _ _ _ _ _ _ _ _ _
   | exact ih1 _ _ _ _ _ _ _ _ _
   | exact ih2 _ _ _
   | exact impl_Likeliest.mono _ _ _ _ _
   | exact laws_eqIntS.mono _ _ _
   | exact laws_heldIntS.mono _ _ _
   | exact laws_markIntS.mono _ _ _
   | exact laws_toIntS.mono _ _
   | exact spec_Likeliest.mono _ _ _ _ _
   | exact LeO.none _
   | refine LeO.ite ?_ ?_
   | refine LeO.bind ?_ (fun _ => ?_)
  ·intro y0 y1 y2 y3 y4 y5 y6 y7 y8
   unfold laws_FnExactLikeliest.j1
   repeat' first
   | (with_reducible exact ih0 _ _ _ _ _ _ _ _ _ _ _ _)
   | (with_reducible exact ih1 _ _ _ _ _ _ _ _ _)
   | (with_reducible exact ih2 _ _ _)
   | (with_reducible exact impl_Likeliest.mono _ _ _ _ _)
   | (with_reducible exact laws_eqIntS.mono _ _ _)
   | (with_reducible exact laws_heldIntS.mono _ _ _)
   | (with_reducible exact laws_markIntS.mono _ _ _)
   | (with_reducible exact laws_toIntS.mono _ _)
   | (with_reducible exact spec_Likeliest.mono _ _ _ _ _)
   | (with_reducible exact LeO.refl _)
   | (with_reducible exact LeO.none _)
   | (with_reducible refine LeO.ite ?_ ?_)
   | (with_reducible refine LeO.bind ?_ (fun _ => ?_))
   | exact ih0 _ _ _ _ _ _ _ _ _ _ _ _
   | exact ih1 _ _ _ _ _ _ _ _ _
   | exact ih2 _ _ _
   | exact impl_Likeliest.mono _ _ _ _ _
   | exact laws_eqIntS.mono _ _ _
   | exact laws_heldIntS.mono _ _ _
   | exact laws_markIntS.mono _ _ _
   | exact laws_toIntS.mono _ _
   | exact spec_Likeliest.mono _ _ _ _ _
   | exact LeO.none _
   | refine LeO.ite ?_ ?_
   | refine LeO.bind ?_ (fun _ => ?_)
  ·intro y0 y1 y2
   unfold laws_FnExactLikeliest.j2
   repeat' first
   | (with_reducible exact ih0 _ _ _ _ _ _ _ _ _ _ _ _)
   | (with_reducible exact ih1 _ _ _ _ _ _ _ _ _)
   | (with_reducible exact ih2 _ _ _)
   | (with_reducible exact impl_Likeliest.mono _ _ _ _ _)
   | (with_reducible exact laws_eqIntS.mono _ _ _)
   | (with_reducible exact laws_heldIntS.mono _ _ _)
   | (with_reducible exact laws_markIntS.mono _ _ _)
   | (with_reducible exact laws_toIntS.mono _ _)
   | (with_reducible exact spec_Likeliest.mono _ _ _ _ _)
   | (with_reducible exact LeO.refl _)
   | (with_reducible exact LeO.none _)
   | (with_reducible refine LeO.ite ?_ ?_)
   | (with_reducible refine LeO.bind ?_ (fun _ => ?_))
   | exact ih0 _ _ _ _ _ _ _ _ _ _ _ _
   | exact ih1 _ _ _ _ _ _ _ _ _
   | exact ih2 _ _ _
   | exact impl_Likeliest.mono _ _ _ _ _
   | exact laws_eqIntS.mono _ _ _
   | exact laws_heldIntS.mono _ _ _
   | exact laws_markIntS.mono _ _ _
   | exact laws_toIntS.mono _ _
   | exact spec_Likeliest.mono _ _ _ _ _
   | exact LeO.none _
   | refine LeO.ite ?_ ?_
   | refine LeO.bind ?_ (fun _ => ?_)
theorem laws_FnExactLikeliest.mono : ∀ a0 a1 a2 a3 k, LeO (laws_FnExactLikeliest.f k a0 a1 a2 a3) (laws_FnExactLikeliest.f (k + 1) a0 a1 a2 a3) := by
 intro a0 a1 a2 a3 k
 obtain ⟨ih0, ih1, ih2⟩ := laws_FnExactLikeliest.mono_l k
 unfold laws_FnExactLikeliest.f
 repeat' first
  | (with_reducible exact ih0 _ _ _ _ _ _ _ _ _ _ _ _)
  | (with_reducible exact ih1 _ _ _ _ _ _ _ _ _)
  | (with_reducible exact ih2 _ _ _)
  | (with_reducible exact impl_Likeliest.mono _ _ _ _ _)
  | (with_reducible exact laws_eqIntS.mono _ _ _)
  | (with_reducible exact laws_heldIntS.mono _ _ _)
  | (with_reducible exact laws_markIntS.mono _ _ _)
  | (with_reducible exact laws_toIntS.mono _ _)
  | (with_reducible exact spec_Likeliest.mono _ _ _ _ _)
  | (with_reducible exact LeO.refl _)
  | (with_reducible exact LeO.none _)
  | (with_reducible refine LeO.ite ?_ ?_)
  | (with_reducible refine LeO.bind ?_ (fun _ => ?_))
  | exact ih0 _ _ _ _ _ _ _ _ _ _ _ _
  | exact ih1 _ _ _ _ _ _ _ _ _
  | exact ih2 _ _ _
  | exact impl_Likeliest.mono _ _ _ _ _
  | exact laws_eqIntS.mono _ _ _
  | exact laws_heldIntS.mono _ _ _
  | exact laws_markIntS.mono _ _ _
  | exact laws_toIntS.mono _ _
  | exact spec_Likeliest.mono _ _ _ _ _
  | exact LeO.none _
  | refine LeO.ite ?_ ?_
  | refine LeO.bind ?_ (fun _ => ?_)
set_option maxHeartbeats 8000000 in
set_option maxRecDepth 100000 in
theorem laws_FnExactLikeliest.calls (k : Nat) (a0 : Int) (a1 : Int) (a2 : Int) (A3 : Option Addr) (c3 : Nat) (l3 : List Int) (r : Bool) (w : World) (hr3 : Kd.C (Kd.int .i64) w A3 l3.length l3) (hc3 : l3.length ≤ c3) (hr_ : r = true) (h : laws_FnExactLikeliest.f k a0 a1 a2 l3 = some r) :
 Calls Try.prog 4 #[.int .i64 a0, .int .i64 a1, .int .i64 a2, .slice A3 l3.length c3] w fun e w' => e = .returned (.bool r) ∧ Below w.heap.size w w' := by
 have HR3 := Aside0.mk hr3
 have HC3 := Aside0.mk hc3
 clear hr3 hc3
 have HB := Aside0.mk (Below.refl w.heap.size w)
 have H : (if (l3.length : Int) > 1048576 then (some true) else ((laws_toIntS.f k l3).bind fun t137 => ((spec_Likeliest.f k a0 a1 a2 t137).bind fun bt140 => ((laws_toIntS.f k l3).bind fun t145 => ((impl_Likeliest.f k a0 a1 a2 t145).bind fun bt148 => ((laws_eqIntS.f k bt148.1 bt140.1).bind fun t153 => (if t153 = true then (if bt148.2.1 = bt140.2.1 then (laws_FnExactLikeliest.j0 k a0 a1 a2 l3 bt140.1 bt140.2.1 bt140.2.2 t145 bt148.1 bt148.2.1 bt148.2.2 (bt148.2.2 != bt140.2.2)) else (laws_FnExactLikeliest.j0 k a0 a1 a2 l3 bt140.1 bt140.2.1 bt140.2.2 t145 bt148.1 bt148.2.1 bt148.2.2 true)) else (laws_FnExactLikeliest.j0 k a0 a1 a2 l3 bt140.1 bt140.2.1 bt140.2.2 t145 bt148.1 bt148.2.1 bt148.2.2 true)))))))) = some r := h
 clear h
 by_cases c5 : (l3.length : Int) > 1048576
 case pos =>
  rw [if_pos c5] at H
  have c5b0 : decide (1048576 < (l3.length : Int)) = true := zE c5
  have c5b1 : decide (1048576 < l3.length) = true := zE (by omega)
  clear c5
  obtain rfl := Option.some.inj H
  go_enter Try.func4, Try.ntmps4
  go_wp2
  go_ret
  exact ⟨by first | rfl | (simp [errW_none, errW_some] <;> rfl) | (simp [*, errW_none, errW_some] <;> rfl), by repeat (first | (with_reducible first | exact HB.out | apply zBa | apply zBn | apply zBd) | exact HB.out)⟩
 rw [if_neg c5] at H
 have c5b0 : decide (1048576 < (l3.length : Int)) = false := decide_eq_false c5
 have c5b1 : decide (1048576 < l3.length) = false := decide_eq_false (by omega)
 clear c5
 replace H := Option.bind_eq_some_iff.mp H
 obtain ⟨t137, A60, H⟩ := H
 replace H : ((spec_Likeliest.f k a0 a1 a2 t137).bind fun bt140 => ((laws_toIntS.f k l3).bind fun t145 => ((impl_Likeliest.f k a0 a1 a2 t145).bind fun bt148 => ((laws_eqIntS.f k bt148.1 bt140.1).bind fun t153 => (if t153 = true then (if bt148.2.1 = bt140.2.1 then (laws_FnExactLikeliest.j0 k a0 a1 a2 l3 bt140.1 bt140.2.1 bt140.2.2 t145 bt148.1 bt148.2.1 bt148.2.2 (bt148.2.2 != bt140.2.2)) else (laws_FnExactLikeliest.j0 k a0 a1 a2 l3 bt140.1 bt140.2.1 bt140.2.2 t145 bt148.1 bt148.2.1 bt148.2.2 true)) else (laws_FnExactLikeliest.j0 k a0 a1 a2 l3 bt140.1 bt140.2.1 bt140.2.2 t145 bt148.1 bt148.2.1 bt148.2.2 true)))))) = some r := H
 have A6 := Aside0.mk A60
 clear A60
 replace H := Option.bind_eq_some_iff.mp H
 obtain ⟨⟨t140, t141, t142⟩, A70, H⟩ := H
 replace H : ((laws_toIntS.f k l3).bind fun t145 => ((impl_Likeliest.f k a0 a1 a2 t145).bind fun bt148 => ((laws_eqIntS.f k bt148.1 t140).bind fun t153 => (if t153 = true then (if bt148.2.1 = t141 then (laws_FnExactLikeliest.j0 k a0 a1 a2 l3 t140 t141 t142 t145 bt148.1 bt148.2.1 bt148.2.2 (bt148.2.2 != t142)) else (laws_FnExactLikeliest.j0 k a0 a1 a2 l3 t140 t141 t142 t145 bt148.1 bt148.2.1 bt148.2.2 true)) else (laws_FnExactLikeliest.j0 k a0 a1 a2 l3 t140 t141 t142 t145 bt148.1 bt148.2.1 bt148.2.2 true))))) = some r := H
 have A7 := Aside0.mk A70
 clear A70
 replace H := Option.bind_eq_some_iff.mp H
 obtain ⟨t145, A80, H⟩ := H
 replace H : ((impl_Likeliest.f k a0 a1 a2 t145).bind fun bt148 => ((laws_eqIntS.f k bt148.1 t140).bind fun t153 => (if t153 = true then (if bt148.2.1 = t141 then (laws_FnExactLikeliest.j0 k a0 a1 a2 l3 t140 t141 t142 t145 bt148.1 bt148.2.1 bt148.2.2 (bt148.2.2 != t142)) else (laws_FnExactLikeliest.j0 k a0 a1 a2 l3 t140 t141 t142 t145 bt148.1 bt148.2.1 bt148.2.2 true)) else (laws_FnExactLikeliest.j0 k a0 a1 a2 l3 t140 t141 t142 t145 bt148.1 bt148.2.1 bt148.2.2 true)))) = some r := H
 have A8 := Aside0.mk A80
 clear A80
 replace H := Option.bind_eq_some_iff.mp H
 obtain ⟨⟨t148, t149, t150⟩, A90, H⟩ := H
 replace H : ((laws_eqIntS.f k t148 t140).bind fun t153 => (if t153 = true then (if t149 = t141 then (laws_FnExactLikeliest.j0 k a0 a1 a2 l3 t140 t141 t142 t145 t148 t149 t150 (t150 != t142)) else (laws_FnExactLikeliest.j0 k a0 a1 a2 l3 t140 t141 t142 t145 t148 t149 t150 true)) else (laws_FnExactLikeliest.j0 k a0 a1 a2 l3 t140 t141 t142 t145 t148 t149 t150 true))) = some r := H
 have A9 := Aside0.mk A90
 clear A90
 have HC10 := Aside0.mk H
 clear H
 go_enter Try.func4, Try.ntmps4
 go_upto_region 6 with (first | ((with_reducible refine gate_callee (f := 13) rfl ?_); refine goesL_ (some 30) rfl rfl Try.func13 (by kernel_rfl) rfl #[.slice A3 l3.length c3] rfl (by (try simp only [List.map_toArray, List.map_cons, List.map_nil]); first | done | rfl | (simp only [List.length_drop, List.length_take]; rfl)) ?_; (with_reducible refine (laws_toIntS.calls k _ _ l3 t137 _ ?side1 ?side2 A6.out).mono ?_); (case side1 => repeat (first | exact HR3.out | (with_reducible first | refine zCa ?_ _ | refine zCn ?_ _ | refine zCd ?_))); (case side2 => exact HC3.out); rintro e w11 ⟨v138, rfl, ho0, hb⟩; refine ⟨_, rfl, ?_⟩; have n0_ := Aside0.mk (Kd.R_lower ho0 (below_size (by repeat (first | (with_reducible first | exact HB.out | apply zBa | apply zBn | apply zBd) | exact HB.out)))); have n1_ := Aside0.mk (below_step (by repeat (first | (with_reducible first | exact HB.out | apply zBa | apply zBn | apply zBd) | exact HB.out)) hb); clear HB; have HO139 := n0_; have HB := n1_; clear n0_ n1_; (try clear hb); (try clear hb2); (try clear hk); (try clear hi); (try clear ho0); obtain ⟨Ao12, co12, eo12⟩ := Kd.R_slice HO139.out; subst eo12) | ((with_reducible refine gate_callee (f := 12) rfl ?_); refine goesL_ (some 31) rfl rfl Try.func12 (by kernel_rfl) rfl #[.int .i64 a0, .int .i64 a1, .int .i64 a2, .slice Ao12 t137.length co12] rfl (by (try simp only [List.map_toArray, List.map_cons, List.map_nil]); first | done | rfl | (simp only [List.length_drop, List.length_take]; rfl)) ?_; (with_reducible refine (spec_Likeliest.calls k a0 a1 a2 _ _ t137 t140 t141 t142 _ ?side1 ?side2 A7.out).mono ?_); (case side1 => repeat (first | exact (Kd.R_reads' HO139.out).2.2 | (with_reducible first | refine zCa ?_ _ | refine zCn ?_ _ | refine zCd ?_))); (case side2 => exact (Kd.R_reads' HO139.out).2.1); rintro e w13 ⟨v143, rfl, ho0, hb⟩; refine ⟨_, rfl, ?_⟩; have n0_ := Aside0.mk (Kd.R_elder' (by (with_reducible repeat (first | apply zRa | apply zRn | apply zRd)); first | exact HO139.out | (subst_vars; exact HO139.out)) (Kd.R_base ho0) hb); have n1_ := Aside0.mk (Kd.R_lower (Kd.R_new' ho0 (Kd.R_lt (by (with_reducible repeat (first | apply zRa | apply zRn | apply zRd)); first | exact HO139.out | (subst_vars; exact HO139.out)))) (below_size (by repeat (first | (with_reducible first | exact HB.out | apply zBa | apply zBn | apply zBd) | exact HB.out)))); have n2_ := Aside0.mk (below_step (by repeat (first | (with_reducible first | exact HB.out | apply zBa | apply zBn | apply zBd) | exact HB.out)) hb); clear HO139; clear HB; have HO139 := n0_; have HO144 := n1_; have HB := n2_; clear n0_ n1_ n2_; (try clear hb); (try clear hb2); (try clear hk); (try clear hi); (try clear ho0)) | ((with_reducible refine gate_callee (f := 13) rfl ?_); refine goesL_ (some 36) rfl rfl Try.func13 (by kernel_rfl) rfl #[.slice A3 l3.length c3] rfl (by (try simp only [List.map_toArray, List.map_cons, List.map_nil]); first | done | rfl | (simp only [List.length_drop, List.length_take]; rfl)) ?_; (with_reducible refine (laws_toIntS.calls k _ _ l3 t145 _ ?side1 ?side2 A8.out).mono ?_); (case side1 => repeat (first | exact (Kd.C_below HR3.out HB.out) | (with_reducible first | refine zCa ?_ _ | refine zCn ?_ _ | refine zCd ?_))); (case side2 => exact HC3.out); rintro e w14 ⟨v146, rfl, ho0, hb⟩; refine ⟨_, rfl, ?_⟩; have n0_ := Aside0.mk (Kd.R_elder' (by (with_reducible repeat (first | apply zRa | apply zRn | apply zRd)); first | exact HO139.out | (subst_vars; exact HO139.out)) (Kd.R_base ho0) hb); have n1_ := Aside0.mk (Kd.R_elder' (by (with_reducible repeat (first | apply zRa | apply zRn | apply zRd)); first | exact HO144.out | (subst_vars; exact HO144.out)) (Kd.R_base ho0) hb); have n2_ := Aside0.mk (Kd.R_lower (Kd.R_new' (Kd.R_new' ho0 (Kd.R_lt (by (with_reducible repeat (first | apply zRa | apply zRn | apply zRd)); first | exact HO139.out | (subst_vars; exact HO139.out)))) (Kd.R_lt (by (with_reducible repeat (first | apply zRa | apply zRn | apply zRd)); first | exact HO144.out | (subst_vars; exact HO144.out)))) (below_size (by repeat (first | (with_reducible first | exact HB.out | apply zBa | apply zBn | apply zBd) | exact HB.out)))); have n3_ := Aside0.mk (below_step (by repeat (first | (with_reducible first | exact HB.out | apply zBa | apply zBn | apply zBd) | exact HB.out)) hb); clear HO139; clear HO144; clear HB; have HO139 := n0_; have HO144 := n1_; have HO147 := n2_; have HB := n3_; clear n0_ n1_ n2_ n3_; (try clear hb); (try clear hb2); (try clear hk); (try clear hi); (try clear ho0); obtain ⟨Ao15, co15, eo15⟩ := Kd.R_slice HO147.out; subst eo15) | ((with_reducible refine gate_callee (f := 10) rfl ?_); refine goesL_ (some 42) rfl rfl Try.func10 (by kernel_rfl) rfl #[.int .i64 a0, .int .i64 a1, .int .i64 a2, .slice Ao15 t145.length co15] rfl (by (try simp only [List.map_toArray, List.map_cons, List.map_nil]); first | done | rfl | (simp only [List.length_drop, List.length_take]; rfl)) ?_; (with_reducible refine (impl_Likeliest.calls k a0 a1 a2 _ _ t145 t148 t149 t150 _ ?side1 ?side2 A9.out).mono ?_); (case side1 => repeat (first | exact (Kd.R_reads' HO147.out).2.2 | (with_reducible first | refine zCa ?_ _ | refine zCn ?_ _ | refine zCd ?_))); (case side2 => exact (Kd.R_reads' HO147.out).2.1); rintro e w16 ⟨v151, rfl, ho0, hb⟩; refine ⟨_, rfl, ?_⟩; have n0_ := Aside0.mk (Kd.R_elder' (by (with_reducible repeat (first | apply zRa | apply zRn | apply zRd)); first | exact HO139.out | (subst_vars; exact HO139.out)) (Kd.R_base ho0) hb); have n1_ := Aside0.mk (Kd.R_elder' (by (with_reducible repeat (first | apply zRa | apply zRn | apply zRd)); first | exact HO144.out | (subst_vars; exact HO144.out)) (Kd.R_base ho0) hb); have n2_ := Aside0.mk (Kd.R_elder' (by (with_reducible repeat (first | apply zRa | apply zRn | apply zRd)); first | exact HO147.out | (subst_vars; exact HO147.out)) (Kd.R_base ho0) hb); have n3_ := Aside0.mk (Kd.R_lower (Kd.R_new' (Kd.R_new' (Kd.R_new' ho0 (Kd.R_lt (by (with_reducible repeat (first | apply zRa | apply zRn | apply zRd)); first | exact HO139.out | (subst_vars; exact HO139.out)))) (Kd.R_lt (by (with_reducible repeat (first | apply zRa | apply zRn | apply zRd)); first | exact HO144.out | (subst_vars; exact HO144.out)))) (Kd.R_lt (by (with_reducible repeat (first | apply zRa | apply zRn | apply zRd)); first | exact HO147.out | (subst_vars; exact HO147.out)))) (below_size (by repeat (first | (with_reducible first | exact HB.out | apply zBa | apply zBn | apply zBd) | exact HB.out)))); have n4_ := Aside0.mk (below_step (by repeat (first | (with_reducible first | exact HB.out | apply zBa | apply zBn | apply zBd) | exact HB.out)) hb); clear HO139; clear HO144; clear HO147; clear HB; have HO139 := n0_; have HO144 := n1_; have HO147 := n2_; have HO152 := n3_; have HB := n4_; clear n0_ n1_ n2_ n3_ n4_; (try clear hb); (try clear hb2); (try clear hk); (try clear hi); (try clear ho0)))
 (try simp only [Act.put, List.setIfInBounds_toArray, List.set_cons_zero, List.set_cons_succ])
 go_cut [59] (fun v59 wc => ∃ (kq : Nat) (x59_9 : Bool), v59 = .bool x59_9 ∧ Aside0 (laws_FnExactLikeliest.j0 kq a0 a1 a2 l3 t140 t141 t142 t145 t148 t149 t150 x59_9 = some r) ∧ Aside0 (kq ≤ k) ∧ Aside0 (Kd.R (Kd.int .i64) 3 wc w.heap.size (fun k_ => some k_ ≠ ((.slice Ao15 t145.length co15) : Value).ownBlock ∧ some k_ ≠ (v151 : Value).ownBlock) v143 t140) ∧ Aside0 (Kd.R (Kd.int .i64) 3 wc w.heap.size (fun k_ => some k_ ≠ (v143 : Value).ownBlock ∧ some k_ ≠ (v151 : Value).ownBlock) (.slice Ao15 t145.length co15) t145) ∧ Aside0 (Kd.R (Kd.int .i64) 3 wc w.heap.size (fun k_ => some k_ ≠ (v143 : Value).ownBlock ∧ some k_ ≠ ((.slice Ao15 t145.length co15) : Value).ownBlock) v151 t148) ∧ Aside0 (Below w.heap.size w wc))
 case first =>
  have H := HC10.out
  clear HC10
  replace H := Option.bind_eq_some_iff.mp H
  obtain ⟨t153, A170, H⟩ := H
  replace H : (if t153 = true then (if t149 = t141 then (laws_FnExactLikeliest.j0 k a0 a1 a2 l3 t140 t141 t142 t145 t148 t149 t150 (t150 != t142)) else (laws_FnExactLikeliest.j0 k a0 a1 a2 l3 t140 t141 t142 t145 t148 t149 t150 true)) else (laws_FnExactLikeliest.j0 k a0 a1 a2 l3 t140 t141 t142 t145 t148 t149 t150 true)) = some r := H
  have A17 := Aside0.mk A170
  clear A170
  by_cases c18 : t153 = true
  case neg =>
   replace c18 := Bool.eq_false_iff.mpr c18
   subst c18
   have H1 : (laws_FnExactLikeliest.j0 k a0 a1 a2 l3 t140 t141 t142 t145 t148 t149 t150 true) = some r := by rw [if_neg (show ¬ (false = true) by decide)] at H; exact H
   clear H
   have H := H1
   clear H1
   have H' := Aside0.mk H
   clear H
   obtain ⟨Ao24, co24, eo24⟩ := Kd.R_slice HO152.out
   subst eo24
   obtain ⟨Ao25, co25, eo25⟩ := Kd.R_slice HO144.out
   subst eo25
   go_wp2_with (first | ((with_reducible refine gate_callee (f := 14) rfl ?_); refine goesL_ (some 48) rfl rfl Try.func14 (by kernel_rfl) rfl #[.slice Ao24 t148.length co24, .slice Ao25 t140.length co25] rfl (by (try simp only [List.map_toArray, List.map_cons, List.map_nil]); first | done | rfl | (simp only [List.length_drop, List.length_take]; rfl)) ?_; (with_reducible refine (laws_eqIntS.calls k _ _ t148 _ _ t140 false _ ?side1 ?side2 ?side3 ?side4 A17.out).mono ?_); (case side1 => repeat (first | exact (Kd.R_reads' HO152.out).2.2 | (with_reducible first | refine zCa ?_ _ | refine zCn ?_ _ | refine zCd ?_))); (case side2 => exact (Kd.R_reads' HO152.out).2.1); (case side3 => repeat (first | exact (Kd.R_reads' HO144.out).2.2 | (with_reducible first | refine zCa ?_ _ | refine zCn ?_ _ | refine zCd ?_))); (case side4 => exact (Kd.R_reads' HO144.out).2.1); rintro e w' ⟨rfl, ⟨nd, rfl⟩⟩; refine ⟨_, rfl, ?_⟩))
   go_meet
   case rel => exact ⟨_, (true), (by first | rfl | (simp; done) | (simp [*]; done)), H', ⟨by first | omega | exact Nat.le_refl _⟩, ⟨by (with_reducible repeat (first | apply zRa | apply zRn | apply zRd)); first | exact Kd.R_mono HO144.out (fun _ hk => ⟨hk.1.2, hk.2⟩) | (subst_vars; exact Kd.R_mono HO144.out (fun _ hk => ⟨hk.1.2, hk.2⟩))⟩, ⟨by (with_reducible repeat (first | apply zRa | apply zRn | apply zRd)); first | exact Kd.R_mono HO147.out (fun _ hk => ⟨hk.1.2, hk.2⟩) | (subst_vars; exact Kd.R_mono HO147.out (fun _ hk => ⟨hk.1.2, hk.2⟩))⟩, ⟨by (with_reducible repeat (first | apply zRa | apply zRn | apply zRd)); first | exact Kd.R_mono HO152.out (fun _ hk => ⟨hk.1.2, hk.2⟩) | (subst_vars; exact Kd.R_mono HO152.out (fun _ hk => ⟨hk.1.2, hk.2⟩))⟩, ⟨by repeat (first | (with_reducible first | exact HB.out | apply zBa | apply zBn | apply zBd) | exact HB.out)⟩⟩
  subst c18
  have H1 : (if t149 = t141 then (laws_FnExactLikeliest.j0 k a0 a1 a2 l3 t140 t141 t142 t145 t148 t149 t150 (t150 != t142)) else (laws_FnExactLikeliest.j0 k a0 a1 a2 l3 t140 t141 t142 t145 t148 t149 t150 true)) = some r := by rw [if_pos rfl] at H; exact H
  clear H
  have H := H1
  clear H1
  by_cases c19 : t149 = t141
  case neg =>
   rw [if_neg c19] at H
   have c19b0 : (t149 == t141) = false := beq_eq_false_iff_ne.mpr c19
   have c19b1 : (t149 != t141) = true := bne_iff_ne.mpr c19
   (first | rw [c19b0] | (simp only [i64_w, i32_w]; rw [c19b0]) | skip)
   have H' := Aside0.mk H
   clear H
   obtain ⟨Ao22, co22, eo22⟩ := Kd.R_slice HO152.out
   subst eo22
   obtain ⟨Ao23, co23, eo23⟩ := Kd.R_slice HO144.out
   subst eo23
   go_wp2_with (first | ((with_reducible refine gate_callee (f := 14) rfl ?_); refine goesL_ (some 48) rfl rfl Try.func14 (by kernel_rfl) rfl #[.slice Ao22 t148.length co22, .slice Ao23 t140.length co23] rfl (by (try simp only [List.map_toArray, List.map_cons, List.map_nil]); first | done | rfl | (simp only [List.length_drop, List.length_take]; rfl)) ?_; (with_reducible refine (laws_eqIntS.calls k _ _ t148 _ _ t140 true _ ?side1 ?side2 ?side3 ?side4 A17.out).mono ?_); (case side1 => repeat (first | exact (Kd.R_reads' HO152.out).2.2 | (with_reducible first | refine zCa ?_ _ | refine zCn ?_ _ | refine zCd ?_))); (case side2 => exact (Kd.R_reads' HO152.out).2.1); (case side3 => repeat (first | exact (Kd.R_reads' HO144.out).2.2 | (with_reducible first | refine zCa ?_ _ | refine zCn ?_ _ | refine zCd ?_))); (case side4 => exact (Kd.R_reads' HO144.out).2.1); rintro e w' ⟨rfl, ⟨nd, rfl⟩⟩; refine ⟨_, rfl, ?_⟩))
   go_meet
   case rel => exact ⟨_, (true), (by first | rfl | (simp; done) | (simp [*]; done)), H', ⟨by first | omega | exact Nat.le_refl _⟩, ⟨by (with_reducible repeat (first | apply zRa | apply zRn | apply zRd)); first | exact Kd.R_mono HO144.out (fun _ hk => ⟨hk.1.2, hk.2⟩) | (subst_vars; exact Kd.R_mono HO144.out (fun _ hk => ⟨hk.1.2, hk.2⟩))⟩, ⟨by (with_reducible repeat (first | apply zRa | apply zRn | apply zRd)); first | exact Kd.R_mono HO147.out (fun _ hk => ⟨hk.1.2, hk.2⟩) | (subst_vars; exact Kd.R_mono HO147.out (fun _ hk => ⟨hk.1.2, hk.2⟩))⟩, ⟨by (with_reducible repeat (first | apply zRa | apply zRn | apply zRd)); first | exact Kd.R_mono HO152.out (fun _ hk => ⟨hk.1.2, hk.2⟩) | (subst_vars; exact Kd.R_mono HO152.out (fun _ hk => ⟨hk.1.2, hk.2⟩))⟩, ⟨by repeat (first | (with_reducible first | exact HB.out | apply zBa | apply zBn | apply zBd) | exact HB.out)⟩⟩
  rw [if_pos c19] at H
  have c19b0 : (t149 == t141) = true := beq_iff_eq.mpr c19
  have c19b1 : (t149 != t141) = false := bne_eq_false_iff_eq.mpr c19
  clear c19
  (first | rw [c19b0] | (simp only [i64_w, i32_w]; rw [c19b0]) | skip)
  have H' := Aside0.mk H
  clear H
  obtain ⟨Ao20, co20, eo20⟩ := Kd.R_slice HO152.out
  subst eo20
  obtain ⟨Ao21, co21, eo21⟩ := Kd.R_slice HO144.out
  subst eo21
  go_wp2_with (first | ((with_reducible refine gate_callee (f := 14) rfl ?_); refine goesL_ (some 48) rfl rfl Try.func14 (by kernel_rfl) rfl #[.slice Ao20 t148.length co20, .slice Ao21 t140.length co21] rfl (by (try simp only [List.map_toArray, List.map_cons, List.map_nil]); first | done | rfl | (simp only [List.length_drop, List.length_take]; rfl)) ?_; (with_reducible refine (laws_eqIntS.calls k _ _ t148 _ _ t140 true _ ?side1 ?side2 ?side3 ?side4 A17.out).mono ?_); (case side1 => repeat (first | exact (Kd.R_reads' HO152.out).2.2 | (with_reducible first | refine zCa ?_ _ | refine zCn ?_ _ | refine zCd ?_))); (case side2 => exact (Kd.R_reads' HO152.out).2.1); (case side3 => repeat (first | exact (Kd.R_reads' HO144.out).2.2 | (with_reducible first | refine zCa ?_ _ | refine zCn ?_ _ | refine zCd ?_))); (case side4 => exact (Kd.R_reads' HO144.out).2.1); rintro e w' ⟨rfl, ⟨nd, rfl⟩⟩; refine ⟨_, rfl, ?_⟩))
  go_meet
  case rel => exact ⟨_, ((t150 != t142)), (by first | rfl | (simp; done) | (simp [*]; done)), H', ⟨by first | omega | exact Nat.le_refl _⟩, ⟨by (with_reducible repeat (first | apply zRa | apply zRn | apply zRd)); first | exact Kd.R_mono HO144.out (fun _ hk => ⟨hk.1.2, hk.2⟩) | (subst_vars; exact Kd.R_mono HO144.out (fun _ hk => ⟨hk.1.2, hk.2⟩))⟩, ⟨by (with_reducible repeat (first | apply zRa | apply zRn | apply zRd)); first | exact Kd.R_mono HO147.out (fun _ hk => ⟨hk.1.2, hk.2⟩) | (subst_vars; exact Kd.R_mono HO147.out (fun _ hk => ⟨hk.1.2, hk.2⟩))⟩, ⟨by (with_reducible repeat (first | apply zRa | apply zRn | apply zRd)); first | exact Kd.R_mono HO152.out (fun _ hk => ⟨hk.1.2, hk.2⟩) | (subst_vars; exact Kd.R_mono HO152.out (fun _ hk => ⟨hk.1.2, hk.2⟩))⟩, ⟨by repeat (first | (with_reducible first | exact HB.out | apply zBa | apply zBn | apply zBd) | exact HB.out)⟩⟩
 case rest =>
  clear HC10
  try clear c1
  try clear p2
  try clear c3
  try clear c4
  try clear c5
  try clear c5b0
  try clear c5b1
  try clear c10
  try clear c12
  try clear c13
  try clear c14
  try clear c18
  try clear c19
  try clear c19b0
  try clear c19b1
  obtain ⟨kq, x59_9, rfl, HA, HJ9, HO_9, HO_12, HO_13, HB⟩ := hcut
  cases kq with
  | zero => exact absurd HA.out (by simp [laws_FnExactLikeliest.j0])
  | succ kj9 =>
   have H := HA.out
   clear HA
   simp only [laws_FnExactLikeliest.j0] at H
   by_cases c26 : x59_9 = true
   case pos =>
    subst c26
    have H1 : (some false) = some r := by rw [if_pos rfl] at H; exact H
    clear H
    have H := H1
    clear H1
    exact absurd (Option.some.inj H) (by rw [hr_]; decide)
   replace c26 := Bool.eq_false_iff.mpr c26
   subst c26
   have H1 : ((laws_toIntS.f kj9 l3).bind fun t154 => ((laws_eqIntS.f kj9 t145 t154).bind fun t157 => (if t157 = true then ((laws_markIntS.f kj9 t145 1).bind fun bt158 => (if bt158.1 < 0 then (laws_FnExactLikeliest.j1 kj9 a0 a1 a2 l3 t140 t141 t142 t148 true) else ((laws_eqIntS.f kj9 t148 t140).bind fun t160 => (if t160 = true then (if t149 = t141 then (laws_FnExactLikeliest.j1 kj9 a0 a1 a2 l3 t140 t141 t142 t148 (t150 != t142)) else (laws_FnExactLikeliest.j1 kj9 a0 a1 a2 l3 t140 t141 t142 t148 true)) else (laws_FnExactLikeliest.j1 kj9 a0 a1 a2 l3 t140 t141 t142 t148 true))))) else (some false)))) = some r := by rw [if_neg (show ¬ (false = true) by decide)] at H; exact H
   clear H
   have H := H1
   clear H1
   replace H := Option.bind_eq_some_iff.mp H
   obtain ⟨t154, A270, H⟩ := H
   replace H : ((laws_eqIntS.f kj9 t145 t154).bind fun t157 => (if t157 = true then ((laws_markIntS.f kj9 t145 1).bind fun bt158 => (if bt158.1 < 0 then (laws_FnExactLikeliest.j1 kj9 a0 a1 a2 l3 t140 t141 t142 t148 true) else ((laws_eqIntS.f kj9 t148 t140).bind fun t160 => (if t160 = true then (if t149 = t141 then (laws_FnExactLikeliest.j1 kj9 a0 a1 a2 l3 t140 t141 t142 t148 (t150 != t142)) else (laws_FnExactLikeliest.j1 kj9 a0 a1 a2 l3 t140 t141 t142 t148 true)) else (laws_FnExactLikeliest.j1 kj9 a0 a1 a2 l3 t140 t141 t142 t148 true))))) else (some false))) = some r := H
   have A27 := Aside0.mk A270
   clear A270
   replace H := Option.bind_eq_some_iff.mp H
   obtain ⟨t157, A280, H⟩ := H
   replace H : (if t157 = true then ((laws_markIntS.f kj9 t145 1).bind fun bt158 => (if bt158.1 < 0 then (laws_FnExactLikeliest.j1 kj9 a0 a1 a2 l3 t140 t141 t142 t148 true) else ((laws_eqIntS.f kj9 t148 t140).bind fun t160 => (if t160 = true then (if t149 = t141 then (laws_FnExactLikeliest.j1 kj9 a0 a1 a2 l3 t140 t141 t142 t148 (t150 != t142)) else (laws_FnExactLikeliest.j1 kj9 a0 a1 a2 l3 t140 t141 t142 t148 true)) else (laws_FnExactLikeliest.j1 kj9 a0 a1 a2 l3 t140 t141 t142 t148 true))))) else (some false)) = some r := H
   have A28 := Aside0.mk A280
   clear A280
   by_cases c29 : t157 = true
   case neg =>
    replace c29 := Bool.eq_false_iff.mpr c29
    subst c29
    have H1 : (some false) = some r := by rw [if_neg (show ¬ (false = true) by decide)] at H; exact H
    clear H
    have H := H1
    clear H1
    exact absurd (Option.some.inj H) (by rw [hr_]; decide)
   subst c29
   have H1 : ((laws_markIntS.f kj9 t145 1).bind fun bt158 => (if bt158.1 < 0 then (laws_FnExactLikeliest.j1 kj9 a0 a1 a2 l3 t140 t141 t142 t148 true) else ((laws_eqIntS.f kj9 t148 t140).bind fun t160 => (if t160 = true then (if t149 = t141 then (laws_FnExactLikeliest.j1 kj9 a0 a1 a2 l3 t140 t141 t142 t148 (t150 != t142)) else (laws_FnExactLikeliest.j1 kj9 a0 a1 a2 l3 t140 t141 t142 t148 true)) else (laws_FnExactLikeliest.j1 kj9 a0 a1 a2 l3 t140 t141 t142 t148 true))))) = some r := by rw [if_pos rfl] at H; exact H
   clear H
   have H := H1
   clear H1
   replace H := Option.bind_eq_some_iff.mp H
   obtain ⟨⟨t158, t159⟩, A300, H⟩ := H
   replace H : (if t158 < 0 then (laws_FnExactLikeliest.j1 kj9 a0 a1 a2 l3 t140 t141 t142 t148 true) else ((laws_eqIntS.f kj9 t148 t140).bind fun t160 => (if t160 = true then (if t149 = t141 then (laws_FnExactLikeliest.j1 kj9 a0 a1 a2 l3 t140 t141 t142 t148 (t150 != t142)) else (laws_FnExactLikeliest.j1 kj9 a0 a1 a2 l3 t140 t141 t142 t148 true)) else (laws_FnExactLikeliest.j1 kj9 a0 a1 a2 l3 t140 t141 t142 t148 true)))) = some r := H
   have A30 := Aside0.mk A300
   clear A300
   have HC31 := Aside0.mk H
   clear H
   go_upto_region 12 with (first | ((with_reducible refine gate_callee (f := 13) rfl ?_); refine goesL_ (some 62) rfl rfl Try.func13 (by kernel_rfl) rfl #[.slice A3 l3.length c3] rfl (by (try simp only [List.map_toArray, List.map_cons, List.map_nil]); first | done | rfl | (simp only [List.length_drop, List.length_take]; rfl)) ?_; (with_reducible refine (laws_toIntS.calls kj9 _ _ l3 t154 _ ?side1 ?side2 A27.out).mono ?_); (case side1 => repeat (first | exact (Kd.C_below HR3.out HB.out) | (with_reducible first | refine zCa ?_ _ | refine zCn ?_ _ | refine zCd ?_))); (case side2 => exact HC3.out); rintro e w32 ⟨v155, rfl, ho0, hb⟩; refine ⟨_, rfl, ?_⟩; have n0_ := Aside0.mk (Kd.R_elder' (by (with_reducible repeat (first | apply zRa | apply zRn | apply zRd)); first | exact HO_9.out | (subst_vars; exact HO_9.out)) (Kd.R_base ho0) hb); have n1_ := Aside0.mk (Kd.R_elder' (by (with_reducible repeat (first | apply zRa | apply zRn | apply zRd)); first | exact HO_12.out | (subst_vars; exact HO_12.out)) (Kd.R_base ho0) hb); have n2_ := Aside0.mk (Kd.R_elder' (by (with_reducible repeat (first | apply zRa | apply zRn | apply zRd)); first | exact HO_13.out | (subst_vars; exact HO_13.out)) (Kd.R_base ho0) hb); have n3_ := Aside0.mk (Kd.R_lower (Kd.R_new' (Kd.R_new' (Kd.R_new' ho0 (Kd.R_lt (by (with_reducible repeat (first | apply zRa | apply zRn | apply zRd)); first | exact HO_9.out | (subst_vars; exact HO_9.out)))) (Kd.R_lt (by (with_reducible repeat (first | apply zRa | apply zRn | apply zRd)); first | exact HO_12.out | (subst_vars; exact HO_12.out)))) (Kd.R_lt (by (with_reducible repeat (first | apply zRa | apply zRn | apply zRd)); first | exact HO_13.out | (subst_vars; exact HO_13.out)))) (below_size (by repeat (first | (with_reducible first | exact HB.out | apply zBa | apply zBn | apply zBd) | exact HB.out)))); have n4_ := Aside0.mk (below_step (by repeat (first | (with_reducible first | exact HB.out | apply zBa | apply zBn | apply zBd) | exact HB.out)) hb); clear HO_9; clear HO_12; clear HO_13; clear HB; have HO_9 := n0_; have HO_12 := n1_; have HO_13 := n2_; have HO156 := n3_; have HB := n4_; clear n0_ n1_ n2_ n3_ n4_; (try clear hb); (try clear hb2); (try clear hk); (try clear hi); (try clear ho0); obtain ⟨Ao33, co33, eo33⟩ := Kd.R_slice HO156.out; subst eo33) | ((with_reducible refine gate_callee (f := 14) rfl ?_); refine goesL_ (some 63) rfl rfl Try.func14 (by kernel_rfl) rfl #[.slice Ao15 t145.length co15, .slice Ao33 t154.length co33] rfl (by (try simp only [List.map_toArray, List.map_cons, List.map_nil]); first | done | rfl | (simp only [List.length_drop, List.length_take]; rfl)) ?_; (with_reducible refine (laws_eqIntS.calls kj9 _ _ t145 _ _ t154 true _ ?side1 ?side2 ?side3 ?side4 A28.out).mono ?_); (case side1 => repeat (first | exact (Kd.R_reads' HO_12.out).2.2 | (with_reducible first | refine zCa ?_ _ | refine zCn ?_ _ | refine zCd ?_))); (case side2 => exact (Kd.R_reads' HO_12.out).2.1); (case side3 => repeat (first | exact (Kd.R_reads' HO156.out).2.2 | (with_reducible first | refine zCa ?_ _ | refine zCn ?_ _ | refine zCd ?_))); (case side4 => exact (Kd.R_reads' HO156.out).2.1); rintro e w' ⟨rfl, ⟨nd, rfl⟩⟩; refine ⟨_, rfl, ?_⟩) | ((with_reducible refine gate_callee (f := 15) rfl ?_); refine goesL_ (some 67) rfl rfl Try.func15 (by kernel_rfl) rfl #[.slice Ao15 t145.length co15, .int .i64 1] rfl (by (try simp only [List.map_toArray, List.map_cons, List.map_nil]); first | done | rfl | (simp only [List.length_drop, List.length_take]; rfl)) ?_; (with_reducible refine (laws_markIntS.calls kj9 (fun k_ => some k_ = (.slice Ao15 t145.length co15 : Value).ownBlock) (.slice Ao15 t145.length co15) t145 1 t158 t159 w _ ?side1 ?side2 A30.out).mono ?_); (case side1 => repeat (first | (with_reducible first | exact HB.out | apply zBa | apply zBn | apply zBd) | exact HB.out)); (case side2 => exact Kd.R_tight rfl HO_12.out); rintro e w34 ⟨rfl, hy0, hb, hkp⟩; refine ⟨_, rfl, ?_⟩; have n0_ := Aside0.mk (Kd.R_mono (ok' := fun k_ => some k_ ≠ (.slice Ao15 t145.length co15 : Value).ownBlock ∧ some k_ ≠ (v151 : Value).ownBlock ∧ some k_ ≠ (.slice Ao33 t154.length co33 : Value).ownBlock) (Kd.R_keptB (HO_9.out) hkp (fun k_ hk_ hs_ => (hk_.1.1) hs_)) (fun k_ hk_ => ⟨hk_.1.1.1, hk_.1.1.2, hk_.1.2⟩)); have n1_ := Aside0.mk (Kd.R_reok rfl hy0 (fun k_ e_ => HO_12.out.1 k_ e_)); have n2_ := Aside0.mk (Kd.R_mono (ok' := fun k_ => some k_ ≠ (v143 : Value).ownBlock ∧ some k_ ≠ (.slice Ao15 t145.length co15 : Value).ownBlock ∧ some k_ ≠ (.slice Ao33 t154.length co33 : Value).ownBlock) (Kd.R_keptB (HO_13.out) hkp (fun k_ hk_ hs_ => (hk_.1.2) hs_)) (fun k_ hk_ => ⟨hk_.1.1.1, hk_.1.1.2, hk_.1.2⟩)); have n3_ := Aside0.mk (Kd.R_mono (ok' := fun k_ => some k_ ≠ (v143 : Value).ownBlock ∧ some k_ ≠ (.slice Ao15 t145.length co15 : Value).ownBlock ∧ some k_ ≠ (v151 : Value).ownBlock) (Kd.R_keptB (HO156.out) hkp (fun k_ hk_ hs_ => (hk_.1.2) hs_)) (fun k_ hk_ => ⟨hk_.1.1.1.2, hk_.1.1.2, hk_.1.2⟩)); have n4_ := Aside0.mk (hb); clear HO_9; clear HO_12; clear HO_13; clear HO156; clear HB; have HO_9 := n0_; have HO_12 := n1_; have HO_13 := n2_; have HO156 := n3_; have HB := n4_; clear n0_ n1_ n2_ n3_ n4_; (try clear hb); (try clear hkp); (try clear hy0)))
   (try simp only [Act.put, List.setIfInBounds_toArray, List.set_cons_zero, List.set_cons_succ])
   go_cut [85] (fun v85 wc => ∃ (kq : Nat) (x85_30 : Bool), v85 = .bool x85_30 ∧ Aside0 (laws_FnExactLikeliest.j1 kq a0 a1 a2 l3 t140 t141 t142 t148 x85_30 = some r) ∧ Aside0 (kq ≤ kj9) ∧ Aside0 (Kd.R (Kd.int .i64) 3 wc w.heap.size (fun k_ => some k_ ≠ (v151 : Value).ownBlock) v143 t140) ∧ Aside0 (Kd.R (Kd.int .i64) 3 wc w.heap.size (fun k_ => some k_ ≠ (v143 : Value).ownBlock) v151 t148) ∧ Aside0 (Below w.heap.size w wc))
   case first =>
    have H := HC31.out
    clear HC31
    by_cases c35 : t158 < 0
    case pos =>
     rw [if_pos c35] at H
     have c35b0 : decide (t158 < 0) = true := zE c35
     clear c35
     (first | rw [c35b0] | (simp only [i64_w, i32_w]; rw [c35b0]) | skip)
     have H' := Aside0.mk H
     clear H
     go_wp2
     go_meet
     case rel => exact ⟨_, (true), (by first | rfl | (simp; done) | (simp [*]; done)), H', ⟨by have := HJ9.out; first | omega | exact Nat.le_refl _⟩, ⟨by (with_reducible repeat (first | apply zRa | apply zRn | apply zRd)); first | exact Kd.R_mono HO_9.out (fun _ hk => hk.2.1) | (subst_vars; exact Kd.R_mono HO_9.out (fun _ hk => hk.2.1))⟩, ⟨by (with_reducible repeat (first | apply zRa | apply zRn | apply zRd)); first | exact Kd.R_mono HO_13.out (fun _ hk => hk.1) | (subst_vars; exact Kd.R_mono HO_13.out (fun _ hk => hk.1))⟩, ⟨by repeat (first | (with_reducible first | exact HB.out | apply zBa | apply zBn | apply zBd) | exact HB.out)⟩⟩
    rw [if_neg c35] at H
    have c35b0 : decide (t158 < 0) = false := decide_eq_false c35
    clear c35
    (first | rw [c35b0] | (simp only [i64_w, i32_w]; rw [c35b0]) | skip)
    replace H := Option.bind_eq_some_iff.mp H
    obtain ⟨t160, A360, H⟩ := H
    replace H : (if t160 = true then (if t149 = t141 then (laws_FnExactLikeliest.j1 kj9 a0 a1 a2 l3 t140 t141 t142 t148 (t150 != t142)) else (laws_FnExactLikeliest.j1 kj9 a0 a1 a2 l3 t140 t141 t142 t148 true)) else (laws_FnExactLikeliest.j1 kj9 a0 a1 a2 l3 t140 t141 t142 t148 true)) = some r := H
    have A36 := Aside0.mk A360
    clear A360
    by_cases c37 : t160 = true
    case neg =>
     replace c37 := Bool.eq_false_iff.mpr c37
     subst c37
     have H1 : (laws_FnExactLikeliest.j1 kj9 a0 a1 a2 l3 t140 t141 t142 t148 true) = some r := by rw [if_neg (show ¬ (false = true) by decide)] at H; exact H
     clear H
     have H := H1
     clear H1
     have H' := Aside0.mk H
     clear H
     obtain ⟨Ao43, co43, eo43⟩ := Kd.R_slice HO_13.out
     subst eo43
     obtain ⟨Ao44, co44, eo44⟩ := Kd.R_slice HO_9.out
     subst eo44
     go_wp2_with (first | (go_at_call 14; (with_reducible refine (laws_eqIntS.calls kj9 _ _ t148 _ _ t140 false _ ?side1 ?side2 ?side3 ?side4 A36.out).mono ?_); (case side1 => repeat (first | exact (Kd.R_reads' HO_13.out).2.2 | (with_reducible first | refine zCa ?_ _ | refine zCn ?_ _ | refine zCd ?_))); (case side2 => exact (Kd.R_reads' HO_13.out).2.1); (case side3 => repeat (first | exact (Kd.R_reads' HO_9.out).2.2 | (with_reducible first | refine zCa ?_ _ | refine zCn ?_ _ | refine zCd ?_))); (case side4 => exact (Kd.R_reads' HO_9.out).2.1); rintro e w' ⟨rfl, ⟨nd, rfl⟩⟩))
     go_meet
     case rel => exact ⟨_, (true), (by first | rfl | (simp; done) | (simp [*]; done)), H', ⟨by have := HJ9.out; first | omega | exact Nat.le_refl _⟩, ⟨by (with_reducible repeat (first | apply zRa | apply zRn | apply zRd)); first | exact Kd.R_mono HO_9.out (fun _ hk => hk.2.1) | (subst_vars; exact Kd.R_mono HO_9.out (fun _ hk => hk.2.1))⟩, ⟨by (with_reducible repeat (first | apply zRa | apply zRn | apply zRd)); first | exact Kd.R_mono HO_13.out (fun _ hk => hk.1) | (subst_vars; exact Kd.R_mono HO_13.out (fun _ hk => hk.1))⟩, ⟨by repeat (first | (with_reducible first | exact HB.out | apply zBa | apply zBn | apply zBd) | exact HB.out)⟩⟩
    subst c37
    have H1 : (if t149 = t141 then (laws_FnExactLikeliest.j1 kj9 a0 a1 a2 l3 t140 t141 t142 t148 (t150 != t142)) else (laws_FnExactLikeliest.j1 kj9 a0 a1 a2 l3 t140 t141 t142 t148 true)) = some r := by rw [if_pos rfl] at H; exact H
    clear H
    have H := H1
    clear H1
    by_cases c38 : t149 = t141
    case neg =>
     rw [if_neg c38] at H
     have c38b0 : (t149 == t141) = false := beq_eq_false_iff_ne.mpr c38
     have c38b1 : (t149 != t141) = true := bne_iff_ne.mpr c38
     have H' := Aside0.mk H
     clear H
     obtain ⟨Ao41, co41, eo41⟩ := Kd.R_slice HO_13.out
     subst eo41
     obtain ⟨Ao42, co42, eo42⟩ := Kd.R_slice HO_9.out
     subst eo42
     go_wp2_with (first | (go_at_call 14; (with_reducible refine (laws_eqIntS.calls kj9 _ _ t148 _ _ t140 true _ ?side1 ?side2 ?side3 ?side4 A36.out).mono ?_); (case side1 => repeat (first | exact (Kd.R_reads' HO_13.out).2.2 | (with_reducible first | refine zCa ?_ _ | refine zCn ?_ _ | refine zCd ?_))); (case side2 => exact (Kd.R_reads' HO_13.out).2.1); (case side3 => repeat (first | exact (Kd.R_reads' HO_9.out).2.2 | (with_reducible first | refine zCa ?_ _ | refine zCn ?_ _ | refine zCd ?_))); (case side4 => exact (Kd.R_reads' HO_9.out).2.1); rintro e w' ⟨rfl, ⟨nd, rfl⟩⟩))
     go_meet
     case rel => exact ⟨_, (true), (by first | rfl | (simp; done) | (simp [*]; done)), H', ⟨by have := HJ9.out; first | omega | exact Nat.le_refl _⟩, ⟨by (with_reducible repeat (first | apply zRa | apply zRn | apply zRd)); first | exact Kd.R_mono HO_9.out (fun _ hk => hk.2.1) | (subst_vars; exact Kd.R_mono HO_9.out (fun _ hk => hk.2.1))⟩, ⟨by (with_reducible repeat (first | apply zRa | apply zRn | apply zRd)); first | exact Kd.R_mono HO_13.out (fun _ hk => hk.1) | (subst_vars; exact Kd.R_mono HO_13.out (fun _ hk => hk.1))⟩, ⟨by repeat (first | (with_reducible first | exact HB.out | apply zBa | apply zBn | apply zBd) | exact HB.out)⟩⟩
    rw [if_pos c38] at H
    have c38b0 : (t149 == t141) = true := beq_iff_eq.mpr c38
    have c38b1 : (t149 != t141) = false := bne_eq_false_iff_eq.mpr c38
    clear c38
    have H' := Aside0.mk H
    clear H
    obtain ⟨Ao39, co39, eo39⟩ := Kd.R_slice HO_13.out
    subst eo39
    obtain ⟨Ao40, co40, eo40⟩ := Kd.R_slice HO_9.out
    subst eo40
    go_wp2_with (first | (go_at_call 14; (with_reducible refine (laws_eqIntS.calls kj9 _ _ t148 _ _ t140 true _ ?side1 ?side2 ?side3 ?side4 A36.out).mono ?_); (case side1 => repeat (first | exact (Kd.R_reads' HO_13.out).2.2 | (with_reducible first | refine zCa ?_ _ | refine zCn ?_ _ | refine zCd ?_))); (case side2 => exact (Kd.R_reads' HO_13.out).2.1); (case side3 => repeat (first | exact (Kd.R_reads' HO_9.out).2.2 | (with_reducible first | refine zCa ?_ _ | refine zCn ?_ _ | refine zCd ?_))); (case side4 => exact (Kd.R_reads' HO_9.out).2.1); rintro e w' ⟨rfl, ⟨nd, rfl⟩⟩))
    go_meet
    case rel => exact ⟨_, ((t150 != t142)), (by first | rfl | (simp; done) | (simp [*]; done)), H', ⟨by have := HJ9.out; first | omega | exact Nat.le_refl _⟩, ⟨by (with_reducible repeat (first | apply zRa | apply zRn | apply zRd)); first | exact Kd.R_mono HO_9.out (fun _ hk => hk.2.1) | (subst_vars; exact Kd.R_mono HO_9.out (fun _ hk => hk.2.1))⟩, ⟨by (with_reducible repeat (first | apply zRa | apply zRn | apply zRd)); first | exact Kd.R_mono HO_13.out (fun _ hk => hk.1) | (subst_vars; exact Kd.R_mono HO_13.out (fun _ hk => hk.1))⟩, ⟨by repeat (first | (with_reducible first | exact HB.out | apply zBa | apply zBn | apply zBd) | exact HB.out)⟩⟩
   case rest =>
    clear HC31
    try clear c1
    try clear c2
    try clear p2
    try clear c3
    try clear c4
    try clear c5
    try clear c5b0
    try clear c5b1
    try clear c10
    try clear c12
    try clear c13
    try clear c14
    try clear c15
    try clear c18
    try clear c19
    try clear c19b0
    try clear c19b1
    try clear c26
    try clear c29
    try clear c35
    try clear c35b0
    try clear c37
    try clear c38
    try clear c38b0
    try clear c38b1
    try clear p2
    obtain ⟨kq, x85_30, rfl, HA, HJ30, HO_9, HO_13, HB⟩ := hcut
    cases kq with
    | zero => exact absurd HA.out (by simp [laws_FnExactLikeliest.j1])
    | succ kj30 =>
     have H := HA.out
     clear HA
     simp only [laws_FnExactLikeliest.j1] at H
     by_cases c45 : x85_30 = true
     case pos =>
      subst c45
      have H1 : (some false) = some r := by rw [if_pos rfl] at H; exact H
      clear H
      have H := H1
      clear H1
      exact absurd (Option.some.inj H) (by rw [hr_]; decide)
     replace c45 := Bool.eq_false_iff.mpr c45
     subst c45
     have H1 : ((laws_markIntS.f kj30 t148 1).bind fun bt161 => ((laws_heldIntS.f kj30 bt161.2 1).bind fun t163 => (if t163 < 0 then (some false) else (if t163 = bt161.1 then ((laws_toIntS.f kj30 l3).bind fun t164 => ((impl_Likeliest.f kj30 a0 a1 a2 t164).bind fun bt167 => ((laws_eqIntS.f kj30 bt167.1 t140).bind fun t172 => (if t172 = true then (if bt167.2.1 = t141 then (laws_FnExactLikeliest.j2 kj30 bt161.2 bt161.1 (bt167.2.2 != t142)) else (laws_FnExactLikeliest.j2 kj30 bt161.2 bt161.1 true)) else (laws_FnExactLikeliest.j2 kj30 bt161.2 bt161.1 true))))) else (some false))))) = some r := by rw [if_neg (show ¬ (false = true) by decide)] at H; exact H
     clear H
     have H := H1
     clear H1
     replace H := Option.bind_eq_some_iff.mp H
     obtain ⟨⟨t161, t162⟩, A460, H⟩ := H
     replace H : ((laws_heldIntS.f kj30 t162 1).bind fun t163 => (if t163 < 0 then (some false) else (if t163 = t161 then ((laws_toIntS.f kj30 l3).bind fun t164 => ((impl_Likeliest.f kj30 a0 a1 a2 t164).bind fun bt167 => ((laws_eqIntS.f kj30 bt167.1 t140).bind fun t172 => (if t172 = true then (if bt167.2.1 = t141 then (laws_FnExactLikeliest.j2 kj30 t162 t161 (bt167.2.2 != t142)) else (laws_FnExactLikeliest.j2 kj30 t162 t161 true)) else (laws_FnExactLikeliest.j2 kj30 t162 t161 true))))) else (some false)))) = some r := H
     have A46 := Aside0.mk A460
     clear A460
     replace H := Option.bind_eq_some_iff.mp H
     obtain ⟨t163, A470, H⟩ := H
     replace H : (if t163 < 0 then (some false) else (if t163 = t161 then ((laws_toIntS.f kj30 l3).bind fun t164 => ((impl_Likeliest.f kj30 a0 a1 a2 t164).bind fun bt167 => ((laws_eqIntS.f kj30 bt167.1 t140).bind fun t172 => (if t172 = true then (if bt167.2.1 = t141 then (laws_FnExactLikeliest.j2 kj30 t162 t161 (bt167.2.2 != t142)) else (laws_FnExactLikeliest.j2 kj30 t162 t161 true)) else (laws_FnExactLikeliest.j2 kj30 t162 t161 true))))) else (some false))) = some r := H
     have A47 := Aside0.mk A470
     clear A470
     by_cases c48 : t163 < 0
     case pos =>
      rw [if_pos c48] at H
      have c48b0 : decide (t163 < 0) = true := zE c48
      clear c48
      exact absurd (Option.some.inj H) (by rw [hr_]; decide)
     rw [if_neg c48] at H
     have c48b0 : decide (t163 < 0) = false := decide_eq_false c48
     clear c48
     by_cases c49 : t163 = t161
     case neg =>
      rw [if_neg c49] at H
      have c49b0 : (t163 == t161) = false := beq_eq_false_iff_ne.mpr c49
      have c49b1 : (t163 != t161) = true := bne_iff_ne.mpr c49
      exact absurd (Option.some.inj H) (by rw [hr_]; decide)
     rw [if_pos c49] at H
     have c49b0 : (t163 == t161) = true := beq_iff_eq.mpr c49
     have c49b1 : (t163 != t161) = false := bne_eq_false_iff_eq.mpr c49
     clear c49
     replace H := Option.bind_eq_some_iff.mp H
     obtain ⟨t164, A500, H⟩ := H
     replace H : ((impl_Likeliest.f kj30 a0 a1 a2 t164).bind fun bt167 => ((laws_eqIntS.f kj30 bt167.1 t140).bind fun t172 => (if t172 = true then (if bt167.2.1 = t141 then (laws_FnExactLikeliest.j2 kj30 t162 t161 (bt167.2.2 != t142)) else (laws_FnExactLikeliest.j2 kj30 t162 t161 true)) else (laws_FnExactLikeliest.j2 kj30 t162 t161 true)))) = some r := H
     have A50 := Aside0.mk A500
     clear A500
     replace H := Option.bind_eq_some_iff.mp H
     obtain ⟨⟨t167, t168, t169⟩, A510, H⟩ := H
     replace H : ((laws_eqIntS.f kj30 t167 t140).bind fun t172 => (if t172 = true then (if t168 = t141 then (laws_FnExactLikeliest.j2 kj30 t162 t161 (t169 != t142)) else (laws_FnExactLikeliest.j2 kj30 t162 t161 true)) else (laws_FnExactLikeliest.j2 kj30 t162 t161 true))) = some r := H
     have A51 := Aside0.mk A510
     clear A510
     have HC52 := Aside0.mk H
     clear H
     obtain ⟨Ao53, co53, eo53⟩ := Kd.R_slice HO_13.out
     subst eo53
     go_upto_region 23 with (first | ((with_reducible refine gate_callee (f := 15) rfl ?_); refine goesL_ (some 88) rfl rfl Try.func15 (by kernel_rfl) rfl #[.slice Ao53 t148.length co53, .int .i64 1] rfl (by (try simp only [List.map_toArray, List.map_cons, List.map_nil]); first | done | rfl | (simp only [List.length_drop, List.length_take]; rfl)) ?_; (with_reducible refine (laws_markIntS.calls kj30 (fun k_ => some k_ = (.slice Ao53 t148.length co53 : Value).ownBlock) (.slice Ao53 t148.length co53) t148 1 t161 t162 w _ ?side1 ?side2 A46.out).mono ?_); (case side1 => repeat (first | (with_reducible first | exact HB.out | apply zBa | apply zBn | apply zBd) | exact HB.out)); (case side2 => exact Kd.R_tight rfl HO_13.out); rintro e w54 ⟨rfl, hy0, hb, hkp⟩; refine ⟨_, rfl, ?_⟩; have n0_ := Aside0.mk (Kd.R_mono (ok' := fun k_ => some k_ ≠ (.slice Ao53 t148.length co53 : Value).ownBlock) (Kd.R_keptB (HO_9.out) hkp (fun k_ hk_ hs_ => (hk_) hs_)) (fun k_ hk_ => hk_.1)); have n1_ := Aside0.mk (Kd.R_reok rfl hy0 (fun k_ e_ => HO_13.out.1 k_ e_)); have n2_ := Aside0.mk (hb); clear HO_9; clear HO_13; clear HB; have HO_9 := n0_; have HO_13 := n1_; have HB := n2_; clear n0_ n1_ n2_; (try clear hb); (try clear hkp); (try clear hy0)) | ((with_reducible refine gate_callee (f := 16) rfl ?_); refine goesL_ (some 91) rfl rfl Try.func16 (by kernel_rfl) rfl #[.slice Ao53 t162.length co53, .int .i64 1] rfl (by (try simp only [List.map_toArray, List.map_cons, List.map_nil]); first | done | (rw [show t162.length = t148.length from (Kd.R_reads' HO_13.out).1.symm] <;> rfl) | rfl | (simp only [List.length_drop, List.length_take]; rfl)) ?_; (with_reducible refine (laws_heldIntS.calls kj30 _ _ t162 1 t163 _ ?side1 ?side2 A47.out).mono ?_); (case side1 => repeat (first | exact (Kd.R_reads' HO_13.out).2.2 | (with_reducible first | refine zCa ?_ _ | refine zCn ?_ _ | refine zCd ?_))); (case side2 => rw [show t162.length = t148.length from (Kd.R_reads' HO_13.out).1.symm]; exact (Kd.R_reads' HO_13.out).2.1); rintro e w' ⟨rfl, ⟨nd, rfl⟩⟩; refine ⟨_, rfl, ?_⟩) | ((with_reducible refine gate_callee (f := 13) rfl ?_); refine goesL_ (some 102) rfl rfl Try.func13 (by kernel_rfl) rfl #[.slice A3 l3.length c3] rfl (by (try simp only [List.map_toArray, List.map_cons, List.map_nil]); first | done | rfl | (simp only [List.length_drop, List.length_take]; rfl)) ?_; (with_reducible refine (laws_toIntS.calls kj30 _ _ l3 t164 _ ?side1 ?side2 A50.out).mono ?_); (case side1 => repeat (first | exact (Kd.C_below HR3.out (by repeat (first | (with_reducible first | exact HB.out | apply zBa | apply zBn | apply zBd) | exact HB.out))) | (with_reducible first | refine zCa ?_ _ | refine zCn ?_ _ | refine zCd ?_))); (case side2 => exact HC3.out); rintro e w55 ⟨v165, rfl, ho0, hb⟩; refine ⟨_, rfl, ?_⟩; have n0_ := Aside0.mk (Kd.R_elder' (by (with_reducible repeat (first | apply zRa | apply zRn | apply zRd)); first | exact HO_9.out | (subst_vars; exact HO_9.out)) (Kd.R_base ho0) hb); have n1_ := Aside0.mk (Kd.R_elder' (by (with_reducible repeat (first | apply zRa | apply zRn | apply zRd)); first | exact HO_13.out | (subst_vars; exact HO_13.out)) (Kd.R_base ho0) hb); have n2_ := Aside0.mk (Kd.R_lower (Kd.R_new' (Kd.R_new' ho0 (Kd.R_lt (by (with_reducible repeat (first | apply zRa | apply zRn | apply zRd)); first | exact HO_9.out | (subst_vars; exact HO_9.out)))) (Kd.R_lt (by (with_reducible repeat (first | apply zRa | apply zRn | apply zRd)); first | exact HO_13.out | (subst_vars; exact HO_13.out)))) (below_size (by repeat (first | (with_reducible first | exact HB.out | apply zBa | apply zBn | apply zBd) | exact HB.out)))); have n3_ := Aside0.mk (below_step (by repeat (first | (with_reducible first | exact HB.out | apply zBa | apply zBn | apply zBd) | exact HB.out)) hb); clear HO_9; clear HO_13; clear HB; have HO_9 := n0_; have HO_13 := n1_; have HO166 := n2_; have HB := n3_; clear n0_ n1_ n2_ n3_; (try clear hb); (try clear hb2); (try clear hk); (try clear hi); (try clear ho0); obtain ⟨Ao56, co56, eo56⟩ := Kd.R_slice HO166.out; subst eo56) | ((with_reducible refine gate_callee (f := 10) rfl ?_); refine goesL_ (some 103) rfl rfl Try.func10 (by kernel_rfl) rfl #[.int .i64 a0, .int .i64 a1, .int .i64 a2, .slice Ao56 t164.length co56] rfl (by (try simp only [List.map_toArray, List.map_cons, List.map_nil]); first | done | rfl | (simp only [List.length_drop, List.length_take]; rfl)) ?_; (with_reducible refine (impl_Likeliest.calls kj30 a0 a1 a2 _ _ t164 t167 t168 t169 _ ?side1 ?side2 A51.out).mono ?_); (case side1 => repeat (first | exact (Kd.R_reads' HO166.out).2.2 | (with_reducible first | refine zCa ?_ _ | refine zCn ?_ _ | refine zCd ?_))); (case side2 => exact (Kd.R_reads' HO166.out).2.1); rintro e w57 ⟨v170, rfl, ho0, hb⟩; refine ⟨_, rfl, ?_⟩; have n0_ := Aside0.mk (Kd.R_elder' (by (with_reducible repeat (first | apply zRa | apply zRn | apply zRd)); first | exact HO_9.out | (subst_vars; exact HO_9.out)) (Kd.R_base ho0) hb); have n1_ := Aside0.mk (Kd.R_elder' (by (with_reducible repeat (first | apply zRa | apply zRn | apply zRd)); first | exact HO_13.out | (subst_vars; exact HO_13.out)) (Kd.R_base ho0) hb); have n2_ := Aside0.mk (Kd.R_elder' (by (with_reducible repeat (first | apply zRa | apply zRn | apply zRd)); first | exact HO166.out | (subst_vars; exact HO166.out)) (Kd.R_base ho0) hb); have n3_ := Aside0.mk (Kd.R_lower (Kd.R_new' (Kd.R_new' (Kd.R_new' ho0 (Kd.R_lt (by (with_reducible repeat (first | apply zRa | apply zRn | apply zRd)); first | exact HO_9.out | (subst_vars; exact HO_9.out)))) (Kd.R_lt (by (with_reducible repeat (first | apply zRa | apply zRn | apply zRd)); first | exact HO_13.out | (subst_vars; exact HO_13.out)))) (Kd.R_lt (by (with_reducible repeat (first | apply zRa | apply zRn | apply zRd)); first | exact HO166.out | (subst_vars; exact HO166.out)))) (below_size (by repeat (first | (with_reducible first | exact HB.out | apply zBa | apply zBn | apply zBd) | exact HB.out)))); have n4_ := Aside0.mk (below_step (by repeat (first | (with_reducible first | exact HB.out | apply zBa | apply zBn | apply zBd) | exact HB.out)) hb); clear HO_9; clear HO_13; clear HO166; clear HB; have HO_9 := n0_; have HO_13 := n1_; have HO166 := n2_; have HO171 := n3_; have HB := n4_; clear n0_ n1_ n2_ n3_ n4_; (try clear hb); (try clear hb2); (try clear hk); (try clear hi); (try clear ho0)))
     (try simp only [Act.put, List.setIfInBounds_toArray, List.set_cons_zero, List.set_cons_succ])
     go_cut [120] (fun v120 wc => ∃ (kq : Nat) (x120_51 : Bool), v120 = .bool x120_51 ∧ Aside0 (laws_FnExactLikeliest.j2 kq t162 t161 x120_51 = some r) ∧ Aside0 (kq ≤ kj30) ∧ Aside0 (Kd.R (Kd.int .i64) 3 wc w.heap.size (fun _ => True) (.slice Ao53 t148.length co53) t162) ∧ Aside0 (Below w.heap.size w wc))
     case first =>
      have H := HC52.out
      clear HC52
      replace H := Option.bind_eq_some_iff.mp H
      obtain ⟨t172, A580, H⟩ := H
      replace H : (if t172 = true then (if t168 = t141 then (laws_FnExactLikeliest.j2 kj30 t162 t161 (t169 != t142)) else (laws_FnExactLikeliest.j2 kj30 t162 t161 true)) else (laws_FnExactLikeliest.j2 kj30 t162 t161 true)) = some r := H
      have A58 := Aside0.mk A580
      clear A580
      by_cases c59 : t172 = true
      case neg =>
       replace c59 := Bool.eq_false_iff.mpr c59
       subst c59
       have H1 : (laws_FnExactLikeliest.j2 kj30 t162 t161 true) = some r := by rw [if_neg (show ¬ (false = true) by decide)] at H; exact H
       clear H
       have H := H1
       clear H1
       have H' := Aside0.mk H
       clear H
       obtain ⟨Ao65, co65, eo65⟩ := Kd.R_slice HO171.out
       subst eo65
       obtain ⟨Ao66, co66, eo66⟩ := Kd.R_slice HO_9.out
       subst eo66
       go_wp2_with (first | ((with_reducible refine gate_callee (f := 14) rfl ?_); refine goesL_ (some 109) rfl rfl Try.func14 (by kernel_rfl) rfl #[.slice Ao65 t167.length co65, .slice Ao66 t140.length co66] rfl (by (try simp only [List.map_toArray, List.map_cons, List.map_nil]); first | done | rfl | (simp only [List.length_drop, List.length_take]; rfl)) ?_; (with_reducible refine (laws_eqIntS.calls kj30 _ _ t167 _ _ t140 false _ ?side1 ?side2 ?side3 ?side4 A58.out).mono ?_); (case side1 => repeat (first | exact (Kd.R_reads' HO171.out).2.2 | (with_reducible first | refine zCa ?_ _ | refine zCn ?_ _ | refine zCd ?_))); (case side2 => exact (Kd.R_reads' HO171.out).2.1); (case side3 => repeat (first | exact (Kd.R_reads' HO_9.out).2.2 | (with_reducible first | refine zCa ?_ _ | refine zCn ?_ _ | refine zCd ?_))); (case side4 => exact (Kd.R_reads' HO_9.out).2.1); rintro e w' ⟨rfl, ⟨nd, rfl⟩⟩; refine ⟨_, rfl, ?_⟩))
       go_meet
       case rel => exact ⟨_, (true), (by first | rfl | (simp; done) | (simp [*]; done)), H', ⟨by have := HJ9.out; have := HJ30.out; first | omega | exact Nat.le_refl _⟩, ⟨by (with_reducible repeat (first | apply zRa | apply zRn | apply zRd)); first | exact Kd.R_mono HO_13.out (fun _ hk => trivial) | (subst_vars; exact Kd.R_mono HO_13.out (fun _ hk => trivial))⟩, ⟨by repeat (first | (with_reducible first | exact HB.out | apply zBa | apply zBn | apply zBd) | exact HB.out)⟩⟩
      subst c59
      have H1 : (if t168 = t141 then (laws_FnExactLikeliest.j2 kj30 t162 t161 (t169 != t142)) else (laws_FnExactLikeliest.j2 kj30 t162 t161 true)) = some r := by rw [if_pos rfl] at H; exact H
      clear H
      have H := H1
      clear H1
      by_cases c60 : t168 = t141
      case neg =>
       rw [if_neg c60] at H
       have c60b0 : (t168 == t141) = false := beq_eq_false_iff_ne.mpr c60
       have c60b1 : (t168 != t141) = true := bne_iff_ne.mpr c60
       (first | rw [c60b0] | (simp only [i64_w, i32_w]; rw [c60b0]) | skip)
       have H' := Aside0.mk H
       clear H
       obtain ⟨Ao63, co63, eo63⟩ := Kd.R_slice HO171.out
       subst eo63
       obtain ⟨Ao64, co64, eo64⟩ := Kd.R_slice HO_9.out
       subst eo64
       go_wp2_with (first | ((with_reducible refine gate_callee (f := 14) rfl ?_); refine goesL_ (some 109) rfl rfl Try.func14 (by kernel_rfl) rfl #[.slice Ao63 t167.length co63, .slice Ao64 t140.length co64] rfl (by (try simp only [List.map_toArray, List.map_cons, List.map_nil]); first | done | rfl | (simp only [List.length_drop, List.length_take]; rfl)) ?_; (with_reducible refine (laws_eqIntS.calls kj30 _ _ t167 _ _ t140 true _ ?side1 ?side2 ?side3 ?side4 A58.out).mono ?_); (case side1 => repeat (first | exact (Kd.R_reads' HO171.out).2.2 | (with_reducible first | refine zCa ?_ _ | refine zCn ?_ _ | refine zCd ?_))); (case side2 => exact (Kd.R_reads' HO171.out).2.1); (case side3 => repeat (first | exact (Kd.R_reads' HO_9.out).2.2 | (with_reducible first | refine zCa ?_ _ | refine zCn ?_ _ | refine zCd ?_))); (case side4 => exact (Kd.R_reads' HO_9.out).2.1); rintro e w' ⟨rfl, ⟨nd, rfl⟩⟩; refine ⟨_, rfl, ?_⟩))
       go_meet
       case rel => exact ⟨_, (true), (by first | rfl | (simp; done) | (simp [*]; done)), H', ⟨by have := HJ9.out; have := HJ30.out; first | omega | exact Nat.le_refl _⟩, ⟨by (with_reducible repeat (first | apply zRa | apply zRn | apply zRd)); first | exact Kd.R_mono HO_13.out (fun _ hk => trivial) | (subst_vars; exact Kd.R_mono HO_13.out (fun _ hk => trivial))⟩, ⟨by repeat (first | (with_reducible first | exact HB.out | apply zBa | apply zBn | apply zBd) | exact HB.out)⟩⟩
      rw [if_pos c60] at H
      have c60b0 : (t168 == t141) = true := beq_iff_eq.mpr c60
      have c60b1 : (t168 != t141) = false := bne_eq_false_iff_eq.mpr c60
      clear c60
      (first | rw [c60b0] | (simp only [i64_w, i32_w]; rw [c60b0]) | skip)
      have H' := Aside0.mk H
      clear H
      obtain ⟨Ao61, co61, eo61⟩ := Kd.R_slice HO171.out
      subst eo61
      obtain ⟨Ao62, co62, eo62⟩ := Kd.R_slice HO_9.out
      subst eo62
      go_wp2_with (first | ((with_reducible refine gate_callee (f := 14) rfl ?_); refine goesL_ (some 109) rfl rfl Try.func14 (by kernel_rfl) rfl #[.slice Ao61 t167.length co61, .slice Ao62 t140.length co62] rfl (by (try simp only [List.map_toArray, List.map_cons, List.map_nil]); first | done | rfl | (simp only [List.length_drop, List.length_take]; rfl)) ?_; (with_reducible refine (laws_eqIntS.calls kj30 _ _ t167 _ _ t140 true _ ?side1 ?side2 ?side3 ?side4 A58.out).mono ?_); (case side1 => repeat (first | exact (Kd.R_reads' HO171.out).2.2 | (with_reducible first | refine zCa ?_ _ | refine zCn ?_ _ | refine zCd ?_))); (case side2 => exact (Kd.R_reads' HO171.out).2.1); (case side3 => repeat (first | exact (Kd.R_reads' HO_9.out).2.2 | (with_reducible first | refine zCa ?_ _ | refine zCn ?_ _ | refine zCd ?_))); (case side4 => exact (Kd.R_reads' HO_9.out).2.1); rintro e w' ⟨rfl, ⟨nd, rfl⟩⟩; refine ⟨_, rfl, ?_⟩))
      go_meet
      case rel => exact ⟨_, ((t169 != t142)), (by first | rfl | (simp; done) | (simp [*]; done)), H', ⟨by have := HJ9.out; have := HJ30.out; first | omega | exact Nat.le_refl _⟩, ⟨by (with_reducible repeat (first | apply zRa | apply zRn | apply zRd)); first | exact Kd.R_mono HO_13.out (fun _ hk => trivial) | (subst_vars; exact Kd.R_mono HO_13.out (fun _ hk => trivial))⟩, ⟨by repeat (first | (with_reducible first | exact HB.out | apply zBa | apply zBn | apply zBd) | exact HB.out)⟩⟩
     case rest =>
      clear HC52
      try clear c1
      try clear c2
      try clear p2
      try clear c3
      try clear c4
      try clear c5
      try clear c5b0
      try clear c5b1
      try clear c6
      try clear c10
      try clear c12
      try clear c13
      try clear c14
      try clear c15
      try clear c16
      try clear c18
      try clear c19
      try clear c19b0
      try clear c19b1
      try clear c26
      try clear c29
      try clear c35
      try clear c35b0
      try clear c37
      try clear c38
      try clear c38b0
      try clear c38b1
      try clear c45
      try clear c48
      try clear c48b0
      try clear c49
      try clear c49b0
      try clear c49b1
      try clear c59
      try clear c60
      try clear c60b0
      try clear c60b1
      try clear p2
      obtain ⟨kq, x120_51, rfl, HA, HJ51, HO_13, HB⟩ := hcut
      have hl13_51 := (Kd.R_reads' HO_13.out).1
      rw [hl13_51] at HO_13
      (try simp only [hl13_51])
      cases kq with
      | zero => exact absurd HA.out (by simp [laws_FnExactLikeliest.j2])
      | succ kj51 =>
       have H := HA.out
       clear HA
       simp only [laws_FnExactLikeliest.j2] at H
       by_cases c67 : x120_51 = true
       case pos =>
        subst c67
        have H1 : (some false) = some r := by rw [if_pos rfl] at H; exact H
        clear H
        have H := H1
        clear H1
        exact absurd (Option.some.inj H) (by rw [hr_]; decide)
       replace c67 := Bool.eq_false_iff.mpr c67
       subst c67
       have H1 : ((laws_heldIntS.f kj51 t162 1).bind fun t173 => (if t173 < 0 then (some false) else (if t173 = t161 then (some true) else (some false)))) = some r := by rw [if_neg (show ¬ (false = true) by decide)] at H; exact H
       clear H
       have H := H1
       clear H1
       replace H := Option.bind_eq_some_iff.mp H
       obtain ⟨t173, A680, H⟩ := H
       replace H : (if t173 < 0 then (some false) else (if t173 = t161 then (some true) else (some false))) = some r := H
       have A68 := Aside0.mk A680
       clear A680
       by_cases c69 : t173 < 0
       case pos =>
        rw [if_pos c69] at H
        have c69b0 : decide (t173 < 0) = true := zE c69
        (try (have c69w_hl13_51 := c69b0; simp only [hl13_51] at c69w_hl13_51))
        clear c69
        exact absurd (Option.some.inj H) (by rw [hr_]; decide)
       rw [if_neg c69] at H
       have c69b0 : decide (t173 < 0) = false := decide_eq_false c69
       (try (have c69w_hl13_51 := c69b0; simp only [hl13_51] at c69w_hl13_51))
       clear c69
       by_cases c70 : t173 = t161
       case neg =>
        rw [if_neg c70] at H
        have c70b0 : (t173 == t161) = false := beq_eq_false_iff_ne.mpr c70
        have c70b1 : (t173 != t161) = true := bne_iff_ne.mpr c70
        (try (have c70w_hl13_51 := c70b0; simp only [hl13_51] at c70w_hl13_51))
        exact absurd (Option.some.inj H) (by rw [hr_]; decide)
       rw [if_pos c70] at H
       have c70b0 : (t173 == t161) = true := beq_iff_eq.mpr c70
       have c70b1 : (t173 != t161) = false := bne_eq_false_iff_eq.mpr c70
       (try (have c70w_hl13_51 := c70b0; simp only [hl13_51] at c70w_hl13_51))
       clear c70
       obtain rfl := Option.some.inj H
       go_wp2_with (first | ((with_reducible refine gate_callee (f := 16) rfl ?_); refine goesL_ (some 123) rfl rfl Try.func16 (by kernel_rfl) rfl #[.slice Ao53 t162.length co53, .int .i64 1] rfl (by (try simp only [List.map_toArray, List.map_cons, List.map_nil]); first | done | rfl | (simp only [List.length_drop, List.length_take]; rfl)) ?_; (with_reducible refine (laws_heldIntS.calls kj51 _ _ t162 1 t173 _ ?side1 ?side2 A68.out).mono ?_); (case side1 => repeat (first | exact (Kd.R_reads' HO_13.out).2.2 | (with_reducible first | refine zCa ?_ _ | refine zCn ?_ _ | refine zCd ?_))); (case side2 => exact (Kd.R_reads' HO_13.out).2.1); rintro e w' ⟨rfl, ⟨nd, rfl⟩⟩; refine ⟨_, rfl, ?_⟩))
       go_ret
       exact ⟨by first | rfl | (simp [errW_none, errW_some] <;> rfl) | (simp [*, errW_none, errW_some] <;> rfl), by repeat (first | (with_reducible first | exact HB.out | apply zBa | apply zBn | apply zBd) | exact HB.out)⟩

/-- THE ONE PURE STATEMENT of laws_FnExactLikeliest: yours. -/
def laws_FnExactLikeliest.Pure : Prop := ∀ (a0 : Int) (a1 : Int) (a2 : Int) (l3 : List Int), (Lit.int .i64 a0).wf = true → (Lit.int .i64 a1).wf = true → (Lit.int .i64 a2).wf = true → l3.length ≤ maxLen → l3.length * 8 ≤ 140737488351232 → (∀ x ∈ l3, (Lit.int .i64 x).wf = true) → ∃ k, laws_FnExactLikeliest.f k a0 a1 a2 l3 = some true
theorem laws_FnExactLikeliest.walk (P : laws_FnExactLikeliest.Pure) (a0 : Int) (a1 : Int) (a2 : Int) (a3 : Option Addr) (len3 cap3 : Nat) (z3 : List Int) (w : World) (w0 : (Lit.int .i64 a0).wf = true) (w1 : (Lit.int .i64 a1).wf = true) (w2 : (Lit.int .i64 a2).wf = true) (w3 : (a3 = none ∧ len3 = 0 ∧ cap3 = 0 ∧ z3 = []) ∨ ∃ x, a3 = some x ∧ len3 ≤ cap3 ∧ cap3 ≤ maxLen ∧ z3.length = cap3 ∧ (∀ i, i < z3.length → w.cell? (x.add i) = some (.int .i64 (z3.getD i 0))) ∧ ∀ n ∈ z3, (Lit.int .i64 n).wf = true) (y3 : len3 * 8 ≤ 140737488351232) :
 Calls Try.prog 4 #[.int .i64 a0, .int .i64 a1, .int .i64 a2, .slice a3 len3 cap3] w fun e w' => e = .returned (.bool true) ∧ Below w.heap.size w w' := by
 obtain ⟨l3, rfl, hr3, hm3, hw3, hc3⟩ := ReadsInt.ofRowC w3
 obtain ⟨k, h⟩ := P a0 a1 a2 l3 w0 w1 w2 hm3 y3 hw3
 refine (laws_FnExactLikeliest.calls k a0 a1 a2 _ _ l3 true w (Kd.C_of_reads (d := (0 : Int)) (h1 := fun _ => rfl) hr3) hc3 rfl h).mono ?_
 rintro e w' ⟨rfl, hd⟩
 exact ⟨rfl, hd⟩

end Go.Proofs.Ytoggbgkpeigfmaa.PFnExactLikeliest
