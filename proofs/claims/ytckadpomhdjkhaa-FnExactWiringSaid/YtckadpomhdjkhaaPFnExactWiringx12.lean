-- Written by a turned copy of the print (see the notes of this repo): plain functions and their walks. Lean checks it.
import Derived.Test.YtckadpomhdjkhaaPFnExactWiringx0
import Derived.Test.YtckadpomhdjkhaaPFnExactWiringx1
import Derived.Test.YtckadpomhdjkhaaPFnExactWiringx2
import Derived.Test.YtckadpomhdjkhaaPFnExactWiringx3
import Derived.Test.YtckadpomhdjkhaaPFnExactWiringx7
import Derived.Test.YtckadpomhdjkhaaPFnExactWiringx10
import Derived.Test.YtckadpomhdjkhaaPFnExactWiringx11
namespace Go.Proofs.Ytckadpomhdjkhaa.PFnExactWiring
open Go.RowKit Go.Proofs.YtckadpomhdjkhaaW.PrintWords Go.Proofs.YtckadpomhdjkhaaW.PrintLast Go.Proofs.YtckadpomhdjkhaaW.PrintMore
attribute [local go_sem] max2_int min2_int max_two min_two max_three min_three max_four min_four   -- for this text's walks alone
set_option linter.unusedVariables false
set_option linter.unusedSimpArgs false

/-! ### laws_FnExactWiring: function 6 -/
mutual
def laws_FnExactWiring.j0 : Nat → List (S80) → Bool → List (S80) → Bool → Bool → List (S126) → List (S130) → List (S94) → List (S97) → Option (Bool)
 | 0, _, _, _, _, _, _, _, _, _ => none
 | k + 1, x4, x5, x7, x8, x40, x300000, x300001, x318000, x318001 => if x40 = true then (some false) else ((laws_toPlan.f k x300000 x300001).bind fun bt323 => ((laws_eqPlan.f k x318000 x318001 bt323.1 bt323.2).bind fun t329 => (if t329 = true then ((laws_markPlan.f k x318000 x318001 1).bind fun bt330 => (if bt330.1 < 0 then (laws_FnExactWiring.j1 k x4 x5 x7 true x300000 x300001) else ((laws_eqWireS.f k x7 x4).bind fun t333 => (if t333 = true then (laws_FnExactWiring.j1 k x4 x5 x7 (x8 != x5) x300000 x300001) else (laws_FnExactWiring.j1 k x4 x5 x7 true x300000 x300001))))) else (some false))))
def laws_FnExactWiring.j1 : Nat → List (S80) → Bool → List (S80) → Bool → List (S126) → List (S130) → Option (Bool)
 | 0, _, _, _, _, _, _ => none
 | k + 1, x4, x5, x7, x61, x300000, x300001 => if x61 = true then (some false) else ((laws_markWireS.f k x7 1).bind fun bt334 => ((laws_heldWireS.f k bt334.2 1).bind fun t336 => (if t336 < 0 then (some false) else (if t336 = bt334.1 then ((laws_toPlan.f k x300000 x300001).bind fun bt337 => ((impl_Wiring.f k bt337.1 bt337.2).bind fun bt343 => ((laws_eqWireS.f k bt343.1 x4).bind fun t347 => (if t347 = true then (laws_FnExactWiring.j2 k bt334.2 bt334.1 (bt343.2 != x5)) else (laws_FnExactWiring.j2 k bt334.2 bt334.1 true))))) else (some false)))))
def laws_FnExactWiring.j2 : Nat → List (S80) → Int → Bool → Option (Bool)
 | 0, _, _, _ => none
 | k + 1, x7, x10, x87 => if x87 = true then (some false) else ((laws_heldWireS.f k x7 1).bind fun t348 => (if t348 < 0 then (some false) else (if t348 = x10 then (some true) else (some false))))
end
def laws_FnExactWiring.f (k : Nat) (l0_0 : List (S126)) (l0_1 : List (S130)) : Option (Bool) := (laws_szPlan.f k l0_0 l0_1 1048576).bind fun t300 => (if t300 < 0 then (some true) else ((laws_toPlan.f k l0_0 l0_1).bind fun bt301 => ((spec_Wiring.f k bt301.1 bt301.2).bind fun bt307 => ((laws_toPlan.f k l0_0 l0_1).bind fun bt311 => ((impl_Wiring.f k bt311.1 bt311.2).bind fun bt318 => ((laws_eqWireS.f k bt318.1 bt307.1).bind fun t322 => (if t322 = true then (laws_FnExactWiring.j0 k bt307.1 bt307.2 bt318.1 bt318.2 (bt318.2 != bt307.2) l0_0 l0_1 bt311.1 bt311.2) else (laws_FnExactWiring.j0 k bt307.1 bt307.2 bt318.1 bt318.2 true l0_0 l0_1 bt311.1 bt311.2))))))))
theorem laws_FnExactWiring.mono_l : ∀ k, (∀ y0 y1 y2 y3 y4 y5 y6 y7 y8, LeO (laws_FnExactWiring.j0 k y0 y1 y2 y3 y4 y5 y6 y7 y8) (laws_FnExactWiring.j0 (k + 1) y0 y1 y2 y3 y4 y5 y6 y7 y8)) ∧ (∀ y0 y1 y2 y3 y4 y5, LeO (laws_FnExactWiring.j1 k y0 y1 y2 y3 y4 y5) (laws_FnExactWiring.j1 (k + 1) y0 y1 y2 y3 y4 y5)) ∧ (∀ y0 y1 y2, LeO (laws_FnExactWiring.j2 k y0 y1 y2) (laws_FnExactWiring.j2 (k + 1) y0 y1 y2))
 | 0 => ⟨fun _ _ _ _ _ _ _ _ _ r h => by simp [laws_FnExactWiring.j0] at h, fun _ _ _ _ _ _ r h => by simp [laws_FnExactWiring.j1] at h, fun _ _ _ r h => by simp [laws_FnExactWiring.j2] at h⟩
 | k + 1 => by
  obtain ⟨ih0, ih1, ih2⟩ := laws_FnExactWiring.mono_l k
  refine ⟨?_, ?_, ?_⟩
  ·intro y0 y1 y2 y3 y4 y5 y6 y7 y8
   unfold laws_FnExactWiring.j0
   repeat' first
   | (with_reducible exact ih0 _ _ _ _ _ _ _ _ _)
   | (with_reducible exact ih1 _ _ _ _ _ _)
   | (with_reducible exact ih2 _ _ _)
   | (with_reducible exact impl_Wiring.mono _ _ _)
   | (with_reducible exact laws_eqPlan.mono _ _ _ _ _)
   | (with_reducible exact laws_eqWireS.mono _ _ _)
   | (with_reducible exact laws_heldWireS.mono _ _ _)
   | (with_reducible exact laws_markPlan.mono _ _ _ _)
   | (with_reducible exact laws_markWireS.mono _ _ _)
   | (with_reducible exact laws_szPlan.mono _ _ _ _)
   | (with_reducible exact laws_toPlan.mono _ _ _)
   | (with_reducible exact spec_Wiring.mono _ _ _)
   | (with_reducible exact LeO.refl _)
   | (with_reducible exact LeO.none _)
   | (with_reducible refine LeO.ite ?_ ?_)
   | (with_reducible refine LeO.bind ?_ (fun _ => ?_))
  ·intro y0 y1 y2 y3 y4 y5
   unfold laws_FnExactWiring.j1
   repeat' first
   | (with_reducible exact ih0 _ _ _ _ _ _ _ _ _)
   | (with_reducible exact ih1 _ _ _ _ _ _)
   | (with_reducible exact ih2 _ _ _)
   | (with_reducible exact impl_Wiring.mono _ _ _)
   | (with_reducible exact laws_eqPlan.mono _ _ _ _ _)
   | (with_reducible exact laws_eqWireS.mono _ _ _)
   | (with_reducible exact laws_heldWireS.mono _ _ _)
   | (with_reducible exact laws_markPlan.mono _ _ _ _)
   | (with_reducible exact laws_markWireS.mono _ _ _)
   | (with_reducible exact laws_szPlan.mono _ _ _ _)
   | (with_reducible exact laws_toPlan.mono _ _ _)
   | (with_reducible exact spec_Wiring.mono _ _ _)
   | (with_reducible exact LeO.refl _)
   | (with_reducible exact LeO.none _)
   | (with_reducible refine LeO.ite ?_ ?_)
   | (with_reducible refine LeO.bind ?_ (fun _ => ?_))
  ·intro y0 y1 y2
   unfold laws_FnExactWiring.j2
   repeat' first
   | (with_reducible exact ih0 _ _ _ _ _ _ _ _ _)
   | (with_reducible exact ih1 _ _ _ _ _ _)
   | (with_reducible exact ih2 _ _ _)
   | (with_reducible exact impl_Wiring.mono _ _ _)
   | (with_reducible exact laws_eqPlan.mono _ _ _ _ _)
   | (with_reducible exact laws_eqWireS.mono _ _ _)
   | (with_reducible exact laws_heldWireS.mono _ _ _)
   | (with_reducible exact laws_markPlan.mono _ _ _ _)
   | (with_reducible exact laws_markWireS.mono _ _ _)
   | (with_reducible exact laws_szPlan.mono _ _ _ _)
   | (with_reducible exact laws_toPlan.mono _ _ _)
   | (with_reducible exact spec_Wiring.mono _ _ _)
   | (with_reducible exact LeO.refl _)
   | (with_reducible exact LeO.none _)
   | (with_reducible refine LeO.ite ?_ ?_)
   | (with_reducible refine LeO.bind ?_ (fun _ => ?_))
theorem laws_FnExactWiring.mono : ∀ a0 a1 k, LeO (laws_FnExactWiring.f k a0 a1) (laws_FnExactWiring.f (k + 1) a0 a1) := by
 intro a0 a1 k
 obtain ⟨ih0, ih1, ih2⟩ := laws_FnExactWiring.mono_l k
 unfold laws_FnExactWiring.f
 repeat' first
  | (with_reducible exact ih0 _ _ _ _ _ _ _ _ _)
  | (with_reducible exact ih1 _ _ _ _ _ _)
  | (with_reducible exact ih2 _ _ _)
  | (with_reducible exact impl_Wiring.mono _ _ _)
  | (with_reducible exact laws_eqPlan.mono _ _ _ _ _)
  | (with_reducible exact laws_eqWireS.mono _ _ _)
  | (with_reducible exact laws_heldWireS.mono _ _ _)
  | (with_reducible exact laws_markPlan.mono _ _ _ _)
  | (with_reducible exact laws_markWireS.mono _ _ _)
  | (with_reducible exact laws_szPlan.mono _ _ _ _)
  | (with_reducible exact laws_toPlan.mono _ _ _)
  | (with_reducible exact spec_Wiring.mono _ _ _)
  | (with_reducible exact LeO.refl _)
  | (with_reducible exact LeO.none _)
  | (with_reducible refine LeO.ite ?_ ?_)
  | (with_reducible refine LeO.bind ?_ (fun _ => ?_))
set_option maxHeartbeats 8000000 in
set_option maxRecDepth 100000 in
theorem laws_FnExactWiring.calls (k : Nat) (A0_0 : Option Addr) (c0_0 : Nat) (l0_0 : List (S126)) (A0_1 : Option Addr) (c0_1 : Nat) (l0_1 : List (S130)) (r : Bool) (w : World) (hr0_0 : Kd.C k126 w A0_0 l0_0.length l0_0) (hc0_0 : l0_0.length ≤ c0_0) (hr0_1 : Kd.C k130 w A0_1 l0_1.length l0_1) (hc0_1 : l0_1.length ≤ c0_1) (hr_ : r = true) (h : laws_FnExactWiring.f k l0_0 l0_1 = some r) :
 Calls Try.prog 6 #[.agg #[.slice A0_0 l0_0.length c0_0, .slice A0_1 l0_1.length c0_1]] w fun e w' => e = .returned (.bool r) ∧ Below w.heap.size w w' := by
 have hu40 := Try.underlying40
 have hu46 := Try.underlying46
 have HR0_0 := zM hr0_0
 have HC0_0 := zM hc0_0
 clear hr0_0 hc0_0
 have HR0_1 := zM hr0_1
 have HC0_1 := zM hc0_1
 clear hr0_1 hc0_1
 have HB := zM (Below.refl w.heap.size w)
 have H : ((laws_szPlan.f k l0_0 l0_1 1048576).bind fun t300 => (if t300 < 0 then (some true) else ((laws_toPlan.f k l0_0 l0_1).bind fun bt301 => ((spec_Wiring.f k bt301.1 bt301.2).bind fun bt307 => ((laws_toPlan.f k l0_0 l0_1).bind fun bt311 => ((impl_Wiring.f k bt311.1 bt311.2).bind fun bt318 => ((laws_eqWireS.f k bt318.1 bt307.1).bind fun t322 => (if t322 = true then (laws_FnExactWiring.j0 k bt307.1 bt307.2 bt318.1 bt318.2 (bt318.2 != bt307.2) l0_0 l0_1 bt311.1 bt311.2) else (laws_FnExactWiring.j0 k bt307.1 bt307.2 bt318.1 bt318.2 true l0_0 l0_1 bt311.1 bt311.2))))))))) = some r := h
 clear h
 replace H := zO.mp H
 obtain ⟨t300, A20, H⟩ := H
 replace H : (if t300 < 0 then (some true) else ((laws_toPlan.f k l0_0 l0_1).bind fun bt301 => ((spec_Wiring.f k bt301.1 bt301.2).bind fun bt307 => ((laws_toPlan.f k l0_0 l0_1).bind fun bt311 => ((impl_Wiring.f k bt311.1 bt311.2).bind fun bt318 => ((laws_eqWireS.f k bt318.1 bt307.1).bind fun t322 => (if t322 = true then (laws_FnExactWiring.j0 k bt307.1 bt307.2 bt318.1 bt318.2 (bt318.2 != bt307.2) l0_0 l0_1 bt311.1 bt311.2) else (laws_FnExactWiring.j0 k bt307.1 bt307.2 bt318.1 bt318.2 true l0_0 l0_1 bt311.1 bt311.2)))))))) = some r := H
 have A2 := zM A20
 clear A20
 by_cases c3 : t300 < 0
 case pos =>
  rw [if_pos c3] at H
  have c3b0 : decide (t300 < 0) = true := zE c3
  clear c3
  obtain rfl := zI H
  go_enter Try.func6, Try.ntmps6
  go_wp2_with (first | ((with_reducible refine gate_dst (N := 1) rfl ?_); refine box_event ?hg (N := 1) ?hd (cs := #[.slice A0_0 l0_0.length c0_0, .slice A0_1 l0_1.length c0_1]) (t := 40) ?hr ?_; (case hd => rfl); (case hg => rfl); (case hr => first | (go_simp; done) | (go_simp; rfl)); intro gb299 hg w4 hbox hb; have n0_ := zM (below_step (by repeat (first | (with_reducible first | exact HB.out | apply zBa | apply zBn | apply zBd) | exact HB.out)) hb); have n1_ := zM (hbox); have n2_ := zM ((by rw [hg]; exact (below_size (by repeat (first | (with_reducible first | exact HB.out | apply zBa | apply zBn | apply zBd) | exact HB.out))) : w.heap.size ≤ gb299)); have n3_ := zM n2_.out; clear HB; have HB := n0_; have BK299 := n1_; have GW299 := n2_; have GE299 := n3_; clear n0_ n1_ n2_ n3_; clear hb hbox hg; obtain ⟨hcz5_0, hcz5_1, hfz5_0, hfz5_1⟩ := zc2 BK299.out) | ((with_reducible refine gate_callee (f := 21) rfl ?_); refine goesL_ (some 16) rfl rfl Try.func21 (by kernel_rfl) rfl #[.agg #[.slice A0_0 l0_0.length c0_0, .slice A0_1 l0_1.length c0_1], .int .i64 1048576] rfl (by (try simp only [List.map_toArray, List.map_cons, List.map_nil]); first | done | rfl | (simp only [List.length_drop, List.length_take]; rfl)) ?_; (with_reducible refine (laws_szPlan.calls k _ _ l0_0 _ _ l0_1 1048576 t300 _ ?side1 ?side2 ?side3 ?side4 A2.out).mono ?_); (case side1 => repeat (first | exact (Kd.C_below HR0_0.out HB.out) | (with_reducible first | refine zCa ?_ _ | refine zCn ?_ _ | refine zCd ?_))); (case side2 => exact HC0_0.out); (case side3 => repeat (first | exact (Kd.C_below HR0_1.out HB.out) | (with_reducible first | refine zCa ?_ _ | refine zCn ?_ _ | refine zCd ?_))); (case side4 => exact HC0_1.out); rintro e w6 ⟨rfl, hb⟩; refine ⟨_, rfl, ?_⟩; have n0_ := zM (zNb (g := gb299) (o := .cells #[.slice A0_0 l0_0.length c0_0, .slice A0_1 l0_1.length c0_1] 40 (0, 0)) (by (with_reducible repeat (first | apply zNn | apply zNd | apply zNa)); exact BK299.out) hb); have n1_ := zM (below_step (by repeat (first | (with_reducible first | exact HB.out | apply zBa | apply zBn | apply zBd | refine zBs ?_ GE299.out) | exact HB.out)) hb); clear BK299; clear HB; have BK299 := n0_; have HB := n1_; clear n0_ n1_; (try clear hb); (try clear hb2); (try clear hk); (try clear hi)))
  go_ret
  exact ⟨by first | rfl | (simp [errW_none, errW_some] <;> rfl) | (simp [*, errW_none, errW_some] <;> rfl), by repeat (first | (with_reducible first | exact HB.out | apply zBa | apply zBn | apply zBd | refine zBs ?_ GE299.out) | exact HB.out)⟩
 rw [if_neg c3] at H
 have c3b0 : decide (t300 < 0) = false := decide_eq_false c3
 clear c3
 replace H := zO.mp H
 obtain ⟨⟨t301, t304⟩, A70, H⟩ := H
 replace H : ((spec_Wiring.f k t301 t304).bind fun bt307 => ((laws_toPlan.f k l0_0 l0_1).bind fun bt311 => ((impl_Wiring.f k bt311.1 bt311.2).bind fun bt318 => ((laws_eqWireS.f k bt318.1 bt307.1).bind fun t322 => (if t322 = true then (laws_FnExactWiring.j0 k bt307.1 bt307.2 bt318.1 bt318.2 (bt318.2 != bt307.2) l0_0 l0_1 bt311.1 bt311.2) else (laws_FnExactWiring.j0 k bt307.1 bt307.2 bt318.1 bt318.2 true l0_0 l0_1 bt311.1 bt311.2)))))) = some r := H
 have A7 := zM A70
 clear A70
 replace H := zO.mp H
 obtain ⟨⟨t307, t310⟩, A80, H⟩ := H
 replace H : ((laws_toPlan.f k l0_0 l0_1).bind fun bt311 => ((impl_Wiring.f k bt311.1 bt311.2).bind fun bt318 => ((laws_eqWireS.f k bt318.1 t307).bind fun t322 => (if t322 = true then (laws_FnExactWiring.j0 k t307 t310 bt318.1 bt318.2 (bt318.2 != t310) l0_0 l0_1 bt311.1 bt311.2) else (laws_FnExactWiring.j0 k t307 t310 bt318.1 bt318.2 true l0_0 l0_1 bt311.1 bt311.2))))) = some r := H
 have A8 := zM A80
 clear A80
 replace H := zO.mp H
 obtain ⟨⟨t311, t314⟩, A90, H⟩ := H
 replace H : ((impl_Wiring.f k t311 t314).bind fun bt318 => ((laws_eqWireS.f k bt318.1 t307).bind fun t322 => (if t322 = true then (laws_FnExactWiring.j0 k t307 t310 bt318.1 bt318.2 (bt318.2 != t310) l0_0 l0_1 t311 t314) else (laws_FnExactWiring.j0 k t307 t310 bt318.1 bt318.2 true l0_0 l0_1 t311 t314)))) = some r := H
 have A9 := zM A90
 clear A90
 replace H := zO.mp H
 obtain ⟨⟨t318, t321⟩, A100, H⟩ := H
 replace H : ((laws_eqWireS.f k t318 t307).bind fun t322 => (if t322 = true then (laws_FnExactWiring.j0 k t307 t310 t318 t321 (t321 != t310) l0_0 l0_1 t311 t314) else (laws_FnExactWiring.j0 k t307 t310 t318 t321 true l0_0 l0_1 t311 t314))) = some r := H
 have A10 := zM A100
 clear A100
 have HC11 := zM H
 clear H
 go_enter Try.func6, Try.ntmps6
 go_upto_region 8 with (first | ((with_reducible refine gate_dst (N := 1) rfl ?_); refine box_event ?hg (N := 1) ?hd (cs := #[.slice A0_0 l0_0.length c0_0, .slice A0_1 l0_1.length c0_1]) (t := 40) ?hr ?_; (case hd => rfl); (case hg => rfl); (case hr => first | (go_simp; done) | (go_simp; rfl)); intro gb299 hg w12 hbox hb; have n0_ := zM (below_step (by repeat (first | (with_reducible first | exact HB.out | apply zBa | apply zBn | apply zBd) | exact HB.out)) hb); have n1_ := zM (hbox); have n2_ := zM ((by rw [hg]; exact (below_size (by repeat (first | (with_reducible first | exact HB.out | apply zBa | apply zBn | apply zBd) | exact HB.out))) : w.heap.size ≤ gb299)); have n3_ := zM n2_.out; clear HB; have HB := n0_; have BK299 := n1_; have GW299 := n2_; have GE299 := n3_; clear n0_ n1_ n2_ n3_; clear hb hbox hg; obtain ⟨hcz13_0, hcz13_1, hfz13_0, hfz13_1⟩ := zc2 BK299.out) | ((with_reducible refine gate_callee (f := 21) rfl ?_); refine goesL_ (some 16) rfl rfl Try.func21 (by kernel_rfl) rfl #[.agg #[.slice A0_0 l0_0.length c0_0, .slice A0_1 l0_1.length c0_1], .int .i64 1048576] rfl (by (try simp only [List.map_toArray, List.map_cons, List.map_nil]); first | done | rfl | (simp only [List.length_drop, List.length_take]; rfl)) ?_; (with_reducible refine (laws_szPlan.calls k _ _ l0_0 _ _ l0_1 1048576 t300 _ ?side1 ?side2 ?side3 ?side4 A2.out).mono ?_); (case side1 => repeat (first | exact (Kd.C_below HR0_0.out HB.out) | (with_reducible first | refine zCa ?_ _ | refine zCn ?_ _ | refine zCd ?_))); (case side2 => exact HC0_0.out); (case side3 => repeat (first | exact (Kd.C_below HR0_1.out HB.out) | (with_reducible first | refine zCa ?_ _ | refine zCn ?_ _ | refine zCd ?_))); (case side4 => exact HC0_1.out); rintro e w14 ⟨rfl, hb⟩; refine ⟨_, rfl, ?_⟩; have n0_ := zM (zNb (g := gb299) (o := .cells #[.slice A0_0 l0_0.length c0_0, .slice A0_1 l0_1.length c0_1] 40 (0, 0)) (by (with_reducible repeat (first | apply zNn | apply zNd | apply zNa)); exact BK299.out) hb); have n1_ := zM (below_step (by repeat (first | (with_reducible first | exact HB.out | apply zBa | apply zBn | apply zBd | refine zBs ?_ GE299.out) | exact HB.out)) hb); clear BK299; clear HB; have BK299 := n0_; have HB := n1_; clear n0_ n1_; (try clear hb); (try clear hb2); (try clear hk); (try clear hi); obtain ⟨hcz15_0, hcz15_1, hfz15_0, hfz15_1⟩ := zc2 BK299.out) | ((with_reducible refine gate_callee (f := 23) rfl ?_); refine goesL_ (some 21) rfl rfl Try.func23 (by kernel_rfl) rfl #[.agg #[.slice A0_0 l0_0.length c0_0, .slice A0_1 l0_1.length c0_1]] rfl (by (try simp only [List.map_toArray, List.map_cons, List.map_nil]); first | done | rfl | (simp only [List.length_drop, List.length_take]; rfl)) ?_; (with_reducible refine (laws_toPlan.calls k _ _ l0_0 _ _ l0_1 t301 t304 _ ?side1 ?side2 ?side3 ?side4 A7.out).mono ?_); (case side1 => repeat (first | exact (Kd.C_below HR0_0.out HB.out) | (with_reducible first | refine zCa ?_ _ | refine zCn ?_ _ | refine zCd ?_))); (case side2 => exact HC0_0.out); (case side3 => repeat (first | exact (Kd.C_below HR0_1.out HB.out) | (with_reducible first | refine zCa ?_ _ | refine zCn ?_ _ | refine zCd ?_))); (case side4 => exact HC0_1.out); rintro e w16 ⟨v302, v305, rfl, ho0, ho1, hb⟩; refine ⟨_, rfl, ?_⟩; have n0_ := zM (Kd.R_lower ho0 (below_size (by repeat (first | (with_reducible first | exact HB.out | apply zBa | apply zBn | apply zBd | refine zBs ?_ GE299.out) | exact HB.out)))); have n1_ := zM (Kd.R_lower ho1 (below_size (by repeat (first | (with_reducible first | exact HB.out | apply zBa | apply zBn | apply zBd | refine zBs ?_ GE299.out) | exact HB.out)))); have n2_ := zM (zNb (g := gb299) (o := .cells #[.slice A0_0 l0_0.length c0_0, .slice A0_1 l0_1.length c0_1] 40 (0, 0)) (by (with_reducible repeat (first | apply zNn | apply zNd | apply zNa)); exact BK299.out) hb); have n3_ := zM (below_step (by repeat (first | (with_reducible first | exact HB.out | apply zBa | apply zBn | apply zBd | refine zBs ?_ GE299.out) | exact HB.out)) hb); clear BK299; clear HB; have HO303 := n0_; have HO306 := n1_; have BK299 := n2_; have HB := n3_; clear n0_ n1_ n2_ n3_; (try clear hb); (try clear hb2); (try clear hk); (try clear hi); (try clear ho0); (try clear ho1); obtain ⟨Ao17, co17, eo17⟩ := Kd.R_slice HO303.out; subst eo17; obtain ⟨Ao18, co18, eo18⟩ := Kd.R_slice HO306.out; subst eo18) | ((with_reducible refine gate_callee (f := 26) rfl ?_); refine goesL_ (some 22) rfl rfl Try.func26 (by kernel_rfl) rfl #[.agg #[.slice Ao17 t301.length co17, .slice Ao18 t304.length co18]] rfl (by (try simp only [List.map_toArray, List.map_cons, List.map_nil]); first | done | rfl | (simp only [List.length_drop, List.length_take]; rfl)) ?_; (with_reducible refine (spec_Wiring.calls k _ _ t301 _ _ t304 t307 t310 _ ?side1 ?side2 ?side3 ?side4 A8.out).mono ?_); (case side1 => repeat (first | exact (Kd.R_reads' HO303.out).2.2 | (with_reducible first | refine zCa ?_ _ | refine zCn ?_ _ | refine zCd ?_))); (case side2 => exact (Kd.R_reads' HO303.out).2.1); (case side3 => repeat (first | exact (Kd.R_reads' HO306.out).2.2 | (with_reducible first | refine zCa ?_ _ | refine zCn ?_ _ | refine zCd ?_))); (case side4 => exact (Kd.R_reads' HO306.out).2.1); rintro e w19 ⟨v308, rfl, ho0, hb⟩; refine ⟨_, rfl, ?_⟩; have n0_ := zM (Kd.R_below (by (with_reducible repeat (first | apply zRa | apply zRn | apply zRd)); first | exact HO303.out | (subst_vars; exact HO303.out)) hb); have n1_ := zM (Kd.R_below (by (with_reducible repeat (first | apply zRa | apply zRn | apply zRd)); first | exact HO306.out | (subst_vars; exact HO306.out)) hb); have n2_ := zM (Kd.R_lower ho0 (below_size (by repeat (first | (with_reducible first | exact HB.out | apply zBa | apply zBn | apply zBd | refine zBs ?_ GE299.out) | exact HB.out)))); have n3_ := zM (zNb (g := gb299) (o := .cells #[.slice A0_0 l0_0.length c0_0, .slice A0_1 l0_1.length c0_1] 40 (0, 0)) (by (with_reducible repeat (first | apply zNn | apply zNd | apply zNa)); exact BK299.out) hb); have n4_ := zM (below_step (by repeat (first | (with_reducible first | exact HB.out | apply zBa | apply zBn | apply zBd | refine zBs ?_ GE299.out) | exact HB.out)) hb); clear HO303; clear HO306; clear BK299; clear HB; have HO303 := n0_; have HO306 := n1_; have HO309 := n2_; have BK299 := n3_; have HB := n4_; clear n0_ n1_ n2_ n3_ n4_; (try clear hb); (try clear hb2); (try clear hk); (try clear hi); (try clear ho0); obtain ⟨hcz20_0, hcz20_1, hfz20_0, hfz20_1⟩ := zc2 BK299.out) | ((with_reducible refine gate_callee (f := 23) rfl ?_); refine goesL_ (some 26) rfl rfl Try.func23 (by kernel_rfl) rfl #[.agg #[.slice A0_0 l0_0.length c0_0, .slice A0_1 l0_1.length c0_1]] rfl (by (try simp only [List.map_toArray, List.map_cons, List.map_nil]); first | done | rfl | (simp only [List.length_drop, List.length_take]; rfl)) ?_; (with_reducible refine (laws_toPlan.calls k _ _ l0_0 _ _ l0_1 t311 t314 _ ?side1 ?side2 ?side3 ?side4 A9.out).mono ?_); (case side1 => repeat (first | exact (Kd.C_below HR0_0.out HB.out) | (with_reducible first | refine zCa ?_ _ | refine zCn ?_ _ | refine zCd ?_))); (case side2 => exact HC0_0.out); (case side3 => repeat (first | exact (Kd.C_below HR0_1.out HB.out) | (with_reducible first | refine zCa ?_ _ | refine zCn ?_ _ | refine zCd ?_))); (case side4 => exact HC0_1.out); rintro e w21 ⟨v312, v315, rfl, ho0, ho1, hb⟩; refine ⟨_, rfl, ?_⟩; have n0_ := zM (Kd.R_elder' (by (with_reducible repeat (first | apply zRa | apply zRn | apply zRd)); first | exact HO303.out | (subst_vars; exact HO303.out)) (Kd.R_base ho0) hb); have n1_ := zM (Kd.R_elder' (by (with_reducible repeat (first | apply zRa | apply zRn | apply zRd)); first | exact HO306.out | (subst_vars; exact HO306.out)) (Kd.R_base ho1) hb); have n2_ := zM (Kd.R_below (by (with_reducible repeat (first | apply zRa | apply zRn | apply zRd)); first | exact HO309.out | (subst_vars; exact HO309.out)) hb); have n3_ := zM (Kd.R_lower (Kd.R_new' ho0 (Kd.R_lt (by (with_reducible repeat (first | apply zRa | apply zRn | apply zRd)); first | exact HO303.out | (subst_vars; exact HO303.out)))) (below_size (by repeat (first | (with_reducible first | exact HB.out | apply zBa | apply zBn | apply zBd | refine zBs ?_ GE299.out) | exact HB.out)))); have n4_ := zM (Kd.R_lower (Kd.R_new' ho1 (Kd.R_lt (by (with_reducible repeat (first | apply zRa | apply zRn | apply zRd)); first | exact HO306.out | (subst_vars; exact HO306.out)))) (below_size (by repeat (first | (with_reducible first | exact HB.out | apply zBa | apply zBn | apply zBd | refine zBs ?_ GE299.out) | exact HB.out)))); have n5_ := zM (zNb (g := gb299) (o := .cells #[.slice A0_0 l0_0.length c0_0, .slice A0_1 l0_1.length c0_1] 40 (0, 0)) (by (with_reducible repeat (first | apply zNn | apply zNd | apply zNa)); exact BK299.out) hb); have n6_ := zM (below_step (by repeat (first | (with_reducible first | exact HB.out | apply zBa | apply zBn | apply zBd | refine zBs ?_ GE299.out) | exact HB.out)) hb); clear HO303; clear HO306; clear HO309; clear BK299; clear HB; have HO303 := n0_; have HO306 := n1_; have HO309 := n2_; have HO313 := n3_; have HO316 := n4_; have BK299 := n5_; have HB := n6_; clear n0_ n1_ n2_ n3_ n4_ n5_ n6_; (try clear hb); (try clear hb2); (try clear hk); (try clear hi); (try clear ho0); (try clear ho1)) | ((with_reducible refine gate_dst (N := 6) rfl ?_); refine box_event ?hg (N := 6) ?hd (cs := #[.slice none 0 0, .slice none 0 0]) (t := 46) ?hr ?_; (case hd => rfl); (case hg => rfl); (case hr => first | (go_simp; done) | (go_simp; rfl)); intro gb317 hg w22 hbox hb; have n0_ := zM (Kd.R_below (by (with_reducible repeat (first | apply zRa | apply zRn | apply zRd)); first | exact HO303.out | (subst_vars; exact HO303.out)) hb); have n1_ := zM (Kd.R_below (by (with_reducible repeat (first | apply zRa | apply zRn | apply zRd)); first | exact HO306.out | (subst_vars; exact HO306.out)) hb); have n2_ := zM (Kd.R_below (by (with_reducible repeat (first | apply zRa | apply zRn | apply zRd)); first | exact HO309.out | (subst_vars; exact HO309.out)) hb); have n3_ := zM (Kd.R_below (by (with_reducible repeat (first | apply zRa | apply zRn | apply zRd)); first | exact HO313.out | (subst_vars; exact HO313.out)) hb); have n4_ := zM (Kd.R_below (by (with_reducible repeat (first | apply zRa | apply zRn | apply zRd)); first | exact HO316.out | (subst_vars; exact HO316.out)) hb); have n5_ := zM (zNb (g := gb299) (o := .cells #[.slice A0_0 l0_0.length c0_0, .slice A0_1 l0_1.length c0_1] 40 (0, 0)) (by (with_reducible repeat (first | apply zNn | apply zNd | apply zNa)); exact BK299.out) hb); have n6_ := zM (below_step (by repeat (first | (with_reducible first | exact HB.out | apply zBa | apply zBn | apply zBd | refine zBs ?_ GE299.out) | exact HB.out)) hb); have n7_ := zM (hbox); have n8_ := zM ((by rw [hg]; exact (below_size (by repeat (first | (with_reducible first | exact HB.out | apply zBa | apply zBn | apply zBd | refine zBs ?_ GE299.out) | exact HB.out))) : w.heap.size ≤ gb317)); have n9_ := zM n8_.out; have n10_ := zM ((by rw [hg]; exact Nat.ne_of_lt (by simpa using blk_lt BK299.out) : gb299 ≠ gb317)); have n11_ := zM ((by rw [hg]; exact Nat.ne_of_gt (by simpa using blk_lt BK299.out) : gb317 ≠ gb299)); clear HO303; clear HO306; clear HO309; clear HO313; clear HO316; clear BK299; clear HB; have HO303 := n0_; have HO306 := n1_; have HO309 := n2_; have HO313 := n3_; have HO316 := n4_; have BK299 := n5_; have HB := n6_; have BK317 := n7_; have GW317 := n8_; have GE317 := n9_; have NB299_317 := n10_; have NB317_299 := n11_; clear n0_ n1_ n2_ n3_ n4_ n5_ n6_ n7_ n8_ n9_ n10_ n11_; clear hb hbox hg; obtain ⟨Ao23, co23, eo23⟩ := Kd.R_slice HO313.out; subst eo23; have hnb24 := NB317_299.out; have hnc24 := NB299_317.out; obtain ⟨hcz25_0, hcz25_1, hfz25_0, hfz25_1⟩ := zc2 BK317.out; obtain ⟨Ao26, co26, eo26⟩ := Kd.R_slice HO316.out; subst eo26) | ((with_reducible refine gate_callee (f := 27) rfl ?_); refine goesL_ (some 29) rfl rfl Try.func27 (by kernel_rfl) rfl #[.agg #[.slice Ao23 t311.length co23, .slice Ao26 t314.length co26]] rfl (by (try simp only [List.map_toArray, List.map_cons, List.map_nil]); first | done | rfl | (simp only [List.length_drop, List.length_take]; rfl)) ?_; (with_reducible refine (impl_Wiring.calls k _ _ t311 _ _ t314 t318 t321 _ ?side1 ?side2 ?side3 ?side4 A10.out).mono ?_); (case side1 => refine (Kd.R_reads' (e := 94) (base := w.heap.size) (ok := fun k_ => (True ∧ some k_ ≠ (.slice Ao17 t301.length co17 : Value).ownBlock)) (n := t311.length) (c := co23) ?_).2.2; exact (by (with_reducible repeat (first | apply zRa | apply zRn | apply zRd)); exact (Kd.R_mono (Kd.R_far (p := ⟨gb317, 1, none⟩) (Kd.R_far (p := ⟨gb317, 0, none⟩) (Kd.R_types HO313.out BK317.out (by decide)) (fun _ hk => hk.2) (.slice Ao23 t311.length co23)) (fun _ hk => hk.2) (.slice Ao26 t314.length co26)) (fun _ h_ => h_.1)))); (case side2 => exact (Kd.R_reads' HO313.out).2.1); (case side3 => refine (Kd.R_reads' (e := 97) (base := w.heap.size) (ok := fun k_ => (True ∧ some k_ ≠ (.slice Ao18 t304.length co18 : Value).ownBlock)) (n := t314.length) (c := co26) ?_).2.2; exact (by (with_reducible repeat (first | apply zRa | apply zRn | apply zRd)); exact (Kd.R_mono (Kd.R_far (p := ⟨gb317, 1, none⟩) (Kd.R_far (p := ⟨gb317, 0, none⟩) (Kd.R_types HO316.out BK317.out (by decide)) (fun _ hk => hk.2) (.slice Ao23 t311.length co23)) (fun _ hk => hk.2) (.slice Ao26 t314.length co26)) (fun _ h_ => h_.1)))); (case side4 => exact (Kd.R_reads' HO316.out).2.1); rintro e w27 ⟨v319, rfl, ho0, hb⟩; refine ⟨_, rfl, ?_⟩; have n0_ := zM (Kd.R_below (by (with_reducible repeat (first | apply zRa | apply zRn | apply zRd)); exact (Kd.R_mono (Kd.R_far (p := ⟨gb317, 1, none⟩) (Kd.R_far (p := ⟨gb317, 0, none⟩) (Kd.R_types HO303.out BK317.out (by decide)) (fun _ hk => hk.2) (.slice Ao23 t311.length co23)) (fun _ hk => hk.2) (.slice Ao26 t314.length co26)) (fun _ h_ => h_.1))) hb); have n1_ := zM (Kd.R_below (by (with_reducible repeat (first | apply zRa | apply zRn | apply zRd)); exact (Kd.R_mono (Kd.R_far (p := ⟨gb317, 1, none⟩) (Kd.R_far (p := ⟨gb317, 0, none⟩) (Kd.R_types HO306.out BK317.out (by decide)) (fun _ hk => hk.2) (.slice Ao23 t311.length co23)) (fun _ hk => hk.2) (.slice Ao26 t314.length co26)) (fun _ h_ => h_.1))) hb); have n2_ := zM (Kd.R_elder' (by (with_reducible repeat (first | apply zRa | apply zRn | apply zRd)); exact (Kd.R_mono (Kd.R_far (p := ⟨gb317, 1, none⟩) (Kd.R_far (p := ⟨gb317, 0, none⟩) (Kd.R_types HO309.out BK317.out (by decide)) (fun _ hk => hk.2) (.slice Ao23 t311.length co23)) (fun _ hk => hk.2) (.slice Ao26 t314.length co26)) (fun _ h_ => h_.1))) (Kd.R_base ho0) hb); have n3_ := zM (Kd.R_below (by (with_reducible repeat (first | apply zRa | apply zRn | apply zRd)); exact (Kd.R_mono (Kd.R_far (p := ⟨gb317, 1, none⟩) (Kd.R_far (p := ⟨gb317, 0, none⟩) (Kd.R_types HO313.out BK317.out (by decide)) (fun _ hk => hk.2) (.slice Ao23 t311.length co23)) (fun _ hk => hk.2) (.slice Ao26 t314.length co26)) (fun _ h_ => h_.1))) hb); have n4_ := zM (Kd.R_below (by (with_reducible repeat (first | apply zRa | apply zRn | apply zRd)); exact (Kd.R_mono (Kd.R_far (p := ⟨gb317, 1, none⟩) (Kd.R_far (p := ⟨gb317, 0, none⟩) (Kd.R_types HO316.out BK317.out (by decide)) (fun _ hk => hk.2) (.slice Ao23 t311.length co23)) (fun _ hk => hk.2) (.slice Ao26 t314.length co26)) (fun _ h_ => h_.1))) hb); have n5_ := zM (Kd.R_lower (Kd.R_new' ho0 (Kd.R_lt (by (with_reducible repeat (first | apply zRa | apply zRn | apply zRd)); exact (Kd.R_mono (Kd.R_far (p := ⟨gb317, 1, none⟩) (Kd.R_far (p := ⟨gb317, 0, none⟩) (Kd.R_types HO309.out BK317.out (by decide)) (fun _ hk => hk.2) (.slice Ao23 t311.length co23)) (fun _ hk => hk.2) (.slice Ao26 t314.length co26)) (fun _ h_ => h_.1))))) (below_size (by repeat (first | (with_reducible first | exact HB.out | apply zBa | apply zBn | apply zBd | refine zBs ?_ GE299.out | refine zBs ?_ GE317.out) | exact HB.out)))); have n6_ := zM (zNb (g := gb299) (o := .cells #[.slice A0_0 l0_0.length c0_0, .slice A0_1 l0_1.length c0_1] 40 (0, 0)) (by exact zNf (zNf (BK299.out) NB299_317.out _) NB299_317.out _) hb); have n7_ := zM (zNb (g := gb317) (o := .cells #[.slice Ao23 t311.length co23, .slice Ao26 t314.length co26] 46 (0, 0)) (by exact blk_put (blk_put (BK317.out) 0 _ rfl) 1 _ rfl) hb); have n8_ := zM (below_step (by repeat (first | (with_reducible first | exact HB.out | apply zBa | apply zBn | apply zBd | refine zBs ?_ GE299.out | refine zBs ?_ GE317.out) | exact HB.out)) hb); clear HO303; clear HO306; clear HO309; clear HO313; clear HO316; clear BK299; clear BK317; clear HB; have HO303 := n0_; have HO306 := n1_; have HO309 := n2_; have HO313 := n3_; have HO316 := n4_; have HO320 := n5_; have BK299 := n6_; have BK317 := n7_; have HB := n8_; clear n0_ n1_ n2_ n3_ n4_ n5_ n6_ n7_ n8_; (try clear hb); (try clear hb2); (try clear hk); (try clear hi); (try clear ho0)))
 (try simp only [Act.put, zS1, zS2, zS3])
 go_cut [40] (fun v40 wc => ∃ (kq : Nat) (x40_10 : Bool), v40 = .bool x40_10 ∧ Aside0 (laws_FnExactWiring.j0 kq t307 t310 t318 t321 x40_10 l0_0 l0_1 t311 t314 = some r) ∧ Aside0 (kq ≤ k) ∧ Aside0 (Kd.R k80 80 wc w.heap.size (fun k_ => some k_ ≠ (v319 : Value).ownBlock) v308 t307) ∧ Aside0 (Kd.R k80 80 wc w.heap.size (fun k_ => some k_ ≠ (v308 : Value).ownBlock) v319 t318) ∧ Aside0 (Kd.R k94 94 wc w.heap.size (fun _ => True) (.slice Ao23 t311.length co23) t311) ∧ Aside0 (Kd.R k97 97 wc w.heap.size (fun _ => True) (.slice Ao26 t314.length co26) t314) ∧ Aside0 (wc.heap[gb299]? = some (.cells #[(.slice A0_0 l0_0.length c0_0), (.slice A0_1 l0_1.length c0_1)] 40 (0, 0))) ∧ Aside0 (wc.heap[gb317]? = some (.cells #[(.slice Ao23 t311.length co23), (.slice Ao26 t314.length co26)] 46 (0, 0))) ∧ Aside0 (Below w.heap.size w wc))
 case first =>
  have H := HC11.out
  clear HC11
  replace H := zO.mp H
  obtain ⟨t322, A280, H⟩ := H
  replace H : (if t322 = true then (laws_FnExactWiring.j0 k t307 t310 t318 t321 (t321 != t310) l0_0 l0_1 t311 t314) else (laws_FnExactWiring.j0 k t307 t310 t318 t321 true l0_0 l0_1 t311 t314)) = some r := H
  have A28 := zM A280
  clear A280
  by_cases c29 : t322 = true
  case pos =>
   subst c29
   have H1 : (laws_FnExactWiring.j0 k t307 t310 t318 t321 (t321 != t310) l0_0 l0_1 t311 t314) = some r := by rw [if_pos rfl] at H; exact H
   clear H
   have H := H1
   clear H1
   have H' := zM H
   clear H
   obtain ⟨Ao30, co30, eo30⟩ := Kd.R_slice HO320.out
   subst eo30
   obtain ⟨Ao31, co31, eo31⟩ := Kd.R_slice HO309.out
   subst eo31
   go_wp2_with (first | ((with_reducible refine gate_callee (f := 15) rfl ?_); refine goesL_ (some 34) rfl rfl Try.func15 (by kernel_rfl) rfl #[.slice Ao30 t318.length co30, .slice Ao31 t307.length co31] rfl (by (try simp only [List.map_toArray, List.map_cons, List.map_nil]); first | done | rfl | (simp only [List.length_drop, List.length_take]; rfl)) ?_; (with_reducible refine (laws_eqWireS.calls k _ _ t318 _ _ t307 true _ ?side1 ?side2 ?side3 ?side4 A28.out).mono ?_); (case side1 => repeat (first | exact (Kd.R_reads' HO320.out).2.2 | (with_reducible first | refine zCa ?_ _ | refine zCn ?_ _ | refine zCd ?_))); (case side2 => exact (Kd.R_reads' HO320.out).2.1); (case side3 => repeat (first | exact (Kd.R_reads' HO309.out).2.2 | (with_reducible first | refine zCa ?_ _ | refine zCn ?_ _ | refine zCd ?_))); (case side4 => exact (Kd.R_reads' HO309.out).2.1); rintro e w32 ⟨rfl, hb⟩; refine ⟨_, rfl, ?_⟩; have n0_ := zM (Kd.R_below (by (with_reducible repeat (first | apply zRa | apply zRn | apply zRd)); first | exact HO303.out | (subst_vars; exact HO303.out)) hb); have n1_ := zM (Kd.R_below (by (with_reducible repeat (first | apply zRa | apply zRn | apply zRd)); first | exact HO306.out | (subst_vars; exact HO306.out)) hb); have n2_ := zM (Kd.R_below (by (with_reducible repeat (first | apply zRa | apply zRn | apply zRd)); first | exact HO309.out | (subst_vars; exact HO309.out)) hb); have n3_ := zM (Kd.R_below (by (with_reducible repeat (first | apply zRa | apply zRn | apply zRd)); first | exact HO313.out | (subst_vars; exact HO313.out)) hb); have n4_ := zM (Kd.R_below (by (with_reducible repeat (first | apply zRa | apply zRn | apply zRd)); first | exact HO316.out | (subst_vars; exact HO316.out)) hb); have n5_ := zM (Kd.R_below (by (with_reducible repeat (first | apply zRa | apply zRn | apply zRd)); first | exact HO320.out | (subst_vars; exact HO320.out)) hb); have n6_ := zM (zNb (g := gb299) (o := .cells #[.slice A0_0 l0_0.length c0_0, .slice A0_1 l0_1.length c0_1] 40 (0, 0)) (by (with_reducible repeat (first | apply zNn | apply zNd | apply zNa)); exact BK299.out) hb); have n7_ := zM (zNb (g := gb317) (o := .cells #[.slice Ao23 t311.length co23, .slice Ao26 t314.length co26] 46 (0, 0)) (by (with_reducible repeat (first | apply zNn | apply zNd | apply zNa)); exact BK317.out) hb); have n8_ := zM (below_step (by repeat (first | (with_reducible first | exact HB.out | apply zBa | apply zBn | apply zBd | refine zBs ?_ GE299.out | refine zBs ?_ GE317.out) | exact HB.out)) hb); clear HO303; clear HO306; clear HO309; clear HO313; clear HO316; clear HO320; clear BK299; clear BK317; clear HB; have HO303 := n0_; have HO306 := n1_; have HO309 := n2_; have HO313 := n3_; have HO316 := n4_; have HO320 := n5_; have BK299 := n6_; have BK317 := n7_; have HB := n8_; clear n0_ n1_ n2_ n3_ n4_ n5_ n6_ n7_ n8_; (try clear hb); (try clear hb2); (try clear hk); (try clear hi)))
   go_meet
   case rel => exact ⟨_, ((t321 != t310)), (by first | rfl | (simp; done) | (simp [*]; done)), H', ⟨by first | omega | exact Nat.le_refl _⟩, ⟨by (with_reducible repeat (first | apply zRa | apply zRn | apply zRd)); first | exact Kd.R_mono HO309.out (fun _ hk => hk.2) | (subst_vars; exact Kd.R_mono HO309.out (fun _ hk => hk.2))⟩, ⟨by (with_reducible repeat (first | apply zRa | apply zRn | apply zRd)); first | exact Kd.R_mono HO320.out (fun _ hk => hk.2) | (subst_vars; exact Kd.R_mono HO320.out (fun _ hk => hk.2))⟩, ⟨by (with_reducible repeat (first | apply zRa | apply zRn | apply zRd)); first | exact Kd.R_mono HO313.out (fun _ hk => trivial) | (subst_vars; exact Kd.R_mono HO313.out (fun _ hk => trivial))⟩, ⟨by (with_reducible repeat (first | apply zRa | apply zRn | apply zRd)); first | exact Kd.R_mono HO316.out (fun _ hk => trivial) | (subst_vars; exact Kd.R_mono HO316.out (fun _ hk => trivial))⟩, ⟨by (with_reducible repeat (first | apply zNn | apply zNd | apply zNa)); exact BK299.out⟩, ⟨by (with_reducible repeat (first | apply zNn | apply zNd | apply zNa)); exact BK317.out⟩, ⟨by repeat (first | (with_reducible first | exact HB.out | apply zBa | apply zBn | apply zBd | refine zBs ?_ GE299.out | refine zBs ?_ GE317.out) | exact HB.out)⟩⟩
  replace c29 := Bool.eq_false_iff.mpr c29
  subst c29
  have H1 : (laws_FnExactWiring.j0 k t307 t310 t318 t321 true l0_0 l0_1 t311 t314) = some r := by rw [if_neg (show ¬ (false = true) by decide)] at H; exact H
  clear H
  have H := H1
  clear H1
  have H' := zM H
  clear H
  obtain ⟨Ao33, co33, eo33⟩ := Kd.R_slice HO320.out
  subst eo33
  obtain ⟨Ao34, co34, eo34⟩ := Kd.R_slice HO309.out
  subst eo34
  go_wp2_with (first | ((with_reducible refine gate_callee (f := 15) rfl ?_); refine goesL_ (some 34) rfl rfl Try.func15 (by kernel_rfl) rfl #[.slice Ao33 t318.length co33, .slice Ao34 t307.length co34] rfl (by (try simp only [List.map_toArray, List.map_cons, List.map_nil]); first | done | rfl | (simp only [List.length_drop, List.length_take]; rfl)) ?_; (with_reducible refine (laws_eqWireS.calls k _ _ t318 _ _ t307 false _ ?side1 ?side2 ?side3 ?side4 A28.out).mono ?_); (case side1 => repeat (first | exact (Kd.R_reads' HO320.out).2.2 | (with_reducible first | refine zCa ?_ _ | refine zCn ?_ _ | refine zCd ?_))); (case side2 => exact (Kd.R_reads' HO320.out).2.1); (case side3 => repeat (first | exact (Kd.R_reads' HO309.out).2.2 | (with_reducible first | refine zCa ?_ _ | refine zCn ?_ _ | refine zCd ?_))); (case side4 => exact (Kd.R_reads' HO309.out).2.1); rintro e w35 ⟨rfl, hb⟩; refine ⟨_, rfl, ?_⟩; have n0_ := zM (Kd.R_below (by (with_reducible repeat (first | apply zRa | apply zRn | apply zRd)); first | exact HO303.out | (subst_vars; exact HO303.out)) hb); have n1_ := zM (Kd.R_below (by (with_reducible repeat (first | apply zRa | apply zRn | apply zRd)); first | exact HO306.out | (subst_vars; exact HO306.out)) hb); have n2_ := zM (Kd.R_below (by (with_reducible repeat (first | apply zRa | apply zRn | apply zRd)); first | exact HO309.out | (subst_vars; exact HO309.out)) hb); have n3_ := zM (Kd.R_below (by (with_reducible repeat (first | apply zRa | apply zRn | apply zRd)); first | exact HO313.out | (subst_vars; exact HO313.out)) hb); have n4_ := zM (Kd.R_below (by (with_reducible repeat (first | apply zRa | apply zRn | apply zRd)); first | exact HO316.out | (subst_vars; exact HO316.out)) hb); have n5_ := zM (Kd.R_below (by (with_reducible repeat (first | apply zRa | apply zRn | apply zRd)); first | exact HO320.out | (subst_vars; exact HO320.out)) hb); have n6_ := zM (zNb (g := gb299) (o := .cells #[.slice A0_0 l0_0.length c0_0, .slice A0_1 l0_1.length c0_1] 40 (0, 0)) (by (with_reducible repeat (first | apply zNn | apply zNd | apply zNa)); exact BK299.out) hb); have n7_ := zM (zNb (g := gb317) (o := .cells #[.slice Ao23 t311.length co23, .slice Ao26 t314.length co26] 46 (0, 0)) (by (with_reducible repeat (first | apply zNn | apply zNd | apply zNa)); exact BK317.out) hb); have n8_ := zM (below_step (by repeat (first | (with_reducible first | exact HB.out | apply zBa | apply zBn | apply zBd | refine zBs ?_ GE299.out | refine zBs ?_ GE317.out) | exact HB.out)) hb); clear HO303; clear HO306; clear HO309; clear HO313; clear HO316; clear HO320; clear BK299; clear BK317; clear HB; have HO303 := n0_; have HO306 := n1_; have HO309 := n2_; have HO313 := n3_; have HO316 := n4_; have HO320 := n5_; have BK299 := n6_; have BK317 := n7_; have HB := n8_; clear n0_ n1_ n2_ n3_ n4_ n5_ n6_ n7_ n8_; (try clear hb); (try clear hb2); (try clear hk); (try clear hi)))
  go_meet
  case rel => exact ⟨_, (true), (by first | rfl | (simp; done) | (simp [*]; done)), H', ⟨by first | omega | exact Nat.le_refl _⟩, ⟨by (with_reducible repeat (first | apply zRa | apply zRn | apply zRd)); first | exact Kd.R_mono HO309.out (fun _ hk => hk.2) | (subst_vars; exact Kd.R_mono HO309.out (fun _ hk => hk.2))⟩, ⟨by (with_reducible repeat (first | apply zRa | apply zRn | apply zRd)); first | exact Kd.R_mono HO320.out (fun _ hk => hk.2) | (subst_vars; exact Kd.R_mono HO320.out (fun _ hk => hk.2))⟩, ⟨by (with_reducible repeat (first | apply zRa | apply zRn | apply zRd)); first | exact Kd.R_mono HO313.out (fun _ hk => trivial) | (subst_vars; exact Kd.R_mono HO313.out (fun _ hk => trivial))⟩, ⟨by (with_reducible repeat (first | apply zRa | apply zRn | apply zRd)); first | exact Kd.R_mono HO316.out (fun _ hk => trivial) | (subst_vars; exact Kd.R_mono HO316.out (fun _ hk => trivial))⟩, ⟨by (with_reducible repeat (first | apply zNn | apply zNd | apply zNa)); exact BK299.out⟩, ⟨by (with_reducible repeat (first | apply zNn | apply zNd | apply zNa)); exact BK317.out⟩, ⟨by repeat (first | (with_reducible first | exact HB.out | apply zBa | apply zBn | apply zBd | refine zBs ?_ GE299.out | refine zBs ?_ GE317.out) | exact HB.out)⟩⟩
 case rest =>
  clear HC11
  try clear c1
  try clear c2
  try clear p2
  try clear c3
  try clear c3b0
  try clear c6
  try clear c15
  try clear c21
  try clear c23
  try clear c24
  try clear c26
  try clear c27
  try clear c29
  try clear hcz13_0
  try clear hcz13_1
  try clear hcz15_0
  try clear hcz15_1
  try clear hcz20_0
  try clear hcz20_1
  try clear hcz25_0
  try clear hcz25_1
  try clear hcz5_0
  try clear hcz5_1
  try clear hfz13_0
  try clear hfz13_1
  try clear hfz15_0
  try clear hfz15_1
  try clear hfz20_0
  try clear hfz20_1
  try clear hfz25_0
  try clear hfz25_1
  try clear hfz5_0
  try clear hfz5_1
  obtain ⟨kq, x40_10, rfl, HA, HJ10, HO_4, HO_7, HO_318000, HO_318001, BK299, BK317, HB⟩ := hcut
  cases kq with
  | zero => exact absurd HA.out (by simp [laws_FnExactWiring.j0])
  | succ kj10 =>
   have H := HA.out
   clear HA
   simp only [laws_FnExactWiring.j0] at H
   by_cases c36 : x40_10 = true
   case pos =>
    subst c36
    have H1 : (some false) = some r := by rw [if_pos rfl] at H; exact H
    clear H
    have H := H1
    clear H1
    exact absurd (zI H) (by rw [hr_]; decide)
   replace c36 := Bool.eq_false_iff.mpr c36
   subst c36
   have H1 : ((laws_toPlan.f kj10 l0_0 l0_1).bind fun bt323 => ((laws_eqPlan.f kj10 t311 t314 bt323.1 bt323.2).bind fun t329 => (if t329 = true then ((laws_markPlan.f kj10 t311 t314 1).bind fun bt330 => (if bt330.1 < 0 then (laws_FnExactWiring.j1 kj10 t307 t310 t318 true l0_0 l0_1) else ((laws_eqWireS.f kj10 t318 t307).bind fun t333 => (if t333 = true then (laws_FnExactWiring.j1 kj10 t307 t310 t318 (t321 != t310) l0_0 l0_1) else (laws_FnExactWiring.j1 kj10 t307 t310 t318 true l0_0 l0_1))))) else (some false)))) = some r := by rw [if_neg (show ¬ (false = true) by decide)] at H; exact H
   clear H
   have H := H1
   clear H1
   replace H := zO.mp H
   obtain ⟨⟨t323, t326⟩, A370, H⟩ := H
   replace H : ((laws_eqPlan.f kj10 t311 t314 t323 t326).bind fun t329 => (if t329 = true then ((laws_markPlan.f kj10 t311 t314 1).bind fun bt330 => (if bt330.1 < 0 then (laws_FnExactWiring.j1 kj10 t307 t310 t318 true l0_0 l0_1) else ((laws_eqWireS.f kj10 t318 t307).bind fun t333 => (if t333 = true then (laws_FnExactWiring.j1 kj10 t307 t310 t318 (t321 != t310) l0_0 l0_1) else (laws_FnExactWiring.j1 kj10 t307 t310 t318 true l0_0 l0_1))))) else (some false))) = some r := H
   have A37 := zM A370
   clear A370
   replace H := zO.mp H
   obtain ⟨t329, A380, H⟩ := H
   replace H : (if t329 = true then ((laws_markPlan.f kj10 t311 t314 1).bind fun bt330 => (if bt330.1 < 0 then (laws_FnExactWiring.j1 kj10 t307 t310 t318 true l0_0 l0_1) else ((laws_eqWireS.f kj10 t318 t307).bind fun t333 => (if t333 = true then (laws_FnExactWiring.j1 kj10 t307 t310 t318 (t321 != t310) l0_0 l0_1) else (laws_FnExactWiring.j1 kj10 t307 t310 t318 true l0_0 l0_1))))) else (some false)) = some r := H
   have A38 := zM A380
   clear A380
   by_cases c39 : t329 = true
   case neg =>
    replace c39 := Bool.eq_false_iff.mpr c39
    subst c39
    have H1 : (some false) = some r := by rw [if_neg (show ¬ (false = true) by decide)] at H; exact H
    clear H
    have H := H1
    clear H1
    exact absurd (zI H) (by rw [hr_]; decide)
   subst c39
   have H1 : ((laws_markPlan.f kj10 t311 t314 1).bind fun bt330 => (if bt330.1 < 0 then (laws_FnExactWiring.j1 kj10 t307 t310 t318 true l0_0 l0_1) else ((laws_eqWireS.f kj10 t318 t307).bind fun t333 => (if t333 = true then (laws_FnExactWiring.j1 kj10 t307 t310 t318 (t321 != t310) l0_0 l0_1) else (laws_FnExactWiring.j1 kj10 t307 t310 t318 true l0_0 l0_1))))) = some r := by rw [if_pos rfl] at H; exact H
   clear H
   have H := H1
   clear H1
   replace H := zO.mp H
   obtain ⟨⟨t330, t331, t332⟩, A400, H⟩ := H
   replace H : (if t330 < 0 then (laws_FnExactWiring.j1 kj10 t307 t310 t318 true l0_0 l0_1) else ((laws_eqWireS.f kj10 t318 t307).bind fun t333 => (if t333 = true then (laws_FnExactWiring.j1 kj10 t307 t310 t318 (t321 != t310) l0_0 l0_1) else (laws_FnExactWiring.j1 kj10 t307 t310 t318 true l0_0 l0_1)))) = some r := H
   have A40 := zM A400
   clear A400
   have HC41 := zM H
   clear H
   try go_wp2
   have n0_ := zM (zRd HO_4.out)
   have n1_ := zM (zRd HO_7.out)
   have n2_ := zM (zRd HO_318000.out)
   have n3_ := zM (zRd HO_318001.out)
   have n4_ := zM (zNd BK299.out)
   have n5_ := zM (zNd BK317.out)
   have n6_ := zM (zBd HB.out)
   clear HO_4
   clear HO_7
   clear HO_318000
   clear HO_318001
   clear BK299
   clear BK317
   clear HB
   have HO_4 := n0_
   have HO_7 := n1_
   have HO_318000 := n2_
   have HO_318001 := n3_
   have BK299 := n4_
   have BK317 := n5_
   have HB := n6_
   clear n0_ n1_ n2_ n3_ n4_ n5_ n6_
   refine start_ (n := 5) (S := fun w' => w'.cell? ⟨gb317, 0, none⟩ = some (.slice Ao23 t311.length co23) ∧ w'.cell? ⟨gb317, 1, none⟩ = some (.slice Ao26 t314.length co26) ∧ w'.cell? ⟨gb299, 0, none⟩ = some (.slice A0_0 l0_0.length c0_0) ∧ w'.cell? ⟨gb299, 1, none⟩ = some (.slice A0_1 l0_1.length c0_1)) (ds := []) #[zf,zf,zf,zf,zf] (by kernel_rfl) rfl rfl ⟨(blk_cell BK317.out 0).trans rfl, (blk_cell BK317.out 1).trans rfl, (blk_cell BK299.out 0).trans rfl, (blk_cell BK299.out 1).trans rfl⟩ (fun hHeld => ?_)
   generalize wc.drew = w42 at HO_4 HO_7 HO_318000 HO_318001 BK299 BK317 HB hHeld ⊢
   refine take_ (i := 0) (N := some 41) (v := ?_) (a' := ?_) #[zt,zf,zf,zf,zf] rfl rfl (by kernel_rfl) (fun _ _ _ h => h) (Or.inl ⟨by rfl, ?_⟩) hHeld ?_ ?_
   rotate_left
   ·rintro w' ⟨s0, s1, s2, s3⟩
    go_simp
    with_reducible rfl
   rotate_left
   ·simp only [Act.put, zS1, zS2, zS3, i64_w, i32_w]
    rfl
   refine take_ (i := 1) (N := some 42) (v := ?_) (a' := ?_) #[zt,zt,zf,zf,zf] rfl rfl (by kernel_rfl) (fun _ _ _ h => h) (Or.inl ⟨by rfl, ?_⟩) hHeld ?_ ?_
   rotate_left
   ·rintro w' ⟨s0, s1, s2, s3⟩
    go_simp
    with_reducible rfl
   rotate_left
   ·simp only [Act.put, zS1, zS2, zS3, i64_w, i32_w]
    rfl
   refine one_ (i := 2) (N := some 43) #[zt,zt,zt,zf,zf] rfl rfl (by kernel_rfl) (by decide) (fun K hK => ?_)
   refine goes_ Try.func23 (by kernel_rfl) rfl #[.agg #[.slice A0_0 l0_0.length c0_0, .slice A0_1 l0_1.length c0_1]] (by rfl) rfl rfl (by (try simp only [List.map_toArray, List.map_cons, List.map_nil]); first | done | rfl | (simp only [List.length_drop, List.length_take]; rfl)) ?_
   with_reducible refine (laws_toPlan.calls kj10 _ _ l0_0 _ _ l0_1 t323 t326 _ ?side1 ?side2 ?side3 ?side4 A37.out).mono ?_
   (case side1 => repeat (first | exact (Kd.C_below HR0_0.out HB.out) | (with_reducible first | refine zCa ?_ _ | refine zCn ?_ _ | refine zCd ?_)))
   (case side2 => exact HC0_0.out)
   (case side3 => repeat (first | exact (Kd.C_below HR0_1.out HB.out) | (with_reducible first | refine zCa ?_ _ | refine zCn ?_ _ | refine zCd ?_)))
   (case side4 => exact HC0_1.out)
   rintro e w43 ⟨v324, v327, rfl, ho0, ho1, hb⟩
   refine ⟨_, rfl, ?_⟩
   have n0_ := zM (Kd.R_below (by (with_reducible repeat (first | apply zRa | apply zRn | apply zRd)); first | exact HO_4.out | (subst_vars; exact HO_4.out)) hb)
   have n1_ := zM (Kd.R_below (by (with_reducible repeat (first | apply zRa | apply zRn | apply zRd)); first | exact HO_7.out | (subst_vars; exact HO_7.out)) hb)
   have n2_ := zM (Kd.R_elder' (by (with_reducible repeat (first | apply zRa | apply zRn | apply zRd)); first | exact HO_318000.out | (subst_vars; exact HO_318000.out)) (Kd.R_base ho0) hb)
   have n3_ := zM (Kd.R_elder' (by (with_reducible repeat (first | apply zRa | apply zRn | apply zRd)); first | exact HO_318001.out | (subst_vars; exact HO_318001.out)) (Kd.R_base ho1) hb)
   have n4_ := zM (Kd.R_lower (Kd.R_new' ho0 (Kd.R_lt (by (with_reducible repeat (first | apply zRa | apply zRn | apply zRd)); first | exact HO_318000.out | (subst_vars; exact HO_318000.out)))) (below_size (by repeat (first | (with_reducible first | exact HB.out | apply zBa | apply zBn | apply zBd | refine zBs ?_ GE299.out | refine zBs ?_ GE317.out) | exact HB.out))))
   have n5_ := zM (Kd.R_lower (Kd.R_new' ho1 (Kd.R_lt (by (with_reducible repeat (first | apply zRa | apply zRn | apply zRd)); first | exact HO_318001.out | (subst_vars; exact HO_318001.out)))) (below_size (by repeat (first | (with_reducible first | exact HB.out | apply zBa | apply zBn | apply zBd | refine zBs ?_ GE299.out | refine zBs ?_ GE317.out) | exact HB.out))))
   have n6_ := zM (zNb (g := gb299) (o := .cells #[.slice A0_0 l0_0.length c0_0, .slice A0_1 l0_1.length c0_1] 40 (0, 0)) (by (with_reducible repeat (first | apply zNn | apply zNd | apply zNa)); exact BK299.out) hb)
   have n7_ := zM (zNb (g := gb317) (o := .cells #[.slice Ao23 t311.length co23, .slice Ao26 t314.length co26] 46 (0, 0)) (by (with_reducible repeat (first | apply zNn | apply zNd | apply zNa)); exact BK317.out) hb)
   have n8_ := zM (below_step (by repeat (first | (with_reducible first | exact HB.out | apply zBa | apply zBn | apply zBd | refine zBs ?_ GE299.out | refine zBs ?_ GE317.out) | exact HB.out)) hb)
   clear HO_4
   clear HO_7
   clear HO_318000
   clear HO_318001
   clear BK299
   clear BK317
   clear HB
   have HO_4 := n0_
   have HO_7 := n1_
   have HO_318000 := n2_
   have HO_318001 := n3_
   have HO325 := n4_
   have HO328 := n5_
   have BK299 := n6_
   have BK317 := n7_
   have HB := n8_
   clear n0_ n1_ n2_ n3_ n4_ n5_ n6_ n7_ n8_
   (try clear hb)
   (try clear hb2)
   (try clear hk)
   (try clear hi)
   (try clear ho0)
   (try clear ho1)
   obtain ⟨Ao44, co44, eo44⟩ := Kd.R_slice HO325.out
   (first | subst eo44 | (injection eo44 with f1_ f2_ f3_; have f4_ := f1_.symm; have f5_ := f3_.symm; clear f1_ f2_ f3_; subst f4_; subst f5_))
   obtain ⟨Ao45, co45, eo45⟩ := Kd.R_slice HO328.out
   (first | subst eo45 | (injection eo45 with f1_ f2_ f3_; have f4_ := f1_.symm; have f5_ := f3_.symm; clear f1_ f2_ f3_; subst f4_; subst f5_))
   refine hK.out _ _ ⟨(blk_cell BK317.out 0).trans rfl, (blk_cell BK317.out 1).trans rfl, (blk_cell BK299.out 0).trans rfl, (blk_cell BK299.out 1).trans rfl⟩ (fun hHeld => ?_)
   clear hK K
   refine norm_ (a' := ?_) ?_ ?_
   rotate_left
   ·show Act.put _ (some 43) _ = _
    simp only [Act.put, zS1, zS2, zS3, i64_w, i32_w]
    rfl
   refine one_ (i := 3) (N := some 44) #[zt,zt,zt,zt,zf] rfl rfl (by kernel_rfl) (by decide) (fun K hK => ?_)
   refine goes_ Try.func25 (by kernel_rfl) rfl #[.agg #[.slice Ao23 t311.length co23, .slice Ao26 t314.length co26], .agg #[.slice Ao44 t323.length co44, .slice Ao45 t326.length co45]] (by rfl) rfl rfl (by (try simp only [List.map_toArray, List.map_cons, List.map_nil]); first | done | rfl | (simp only [List.length_drop, List.length_take]; rfl)) ?_
   with_reducible refine (laws_eqPlan.calls kj10 _ _ t311 _ _ t314 _ _ t323 _ _ t326 true _ ?side1 ?side2 ?side3 ?side4 ?side5 ?side6 ?side7 ?side8 A38.out).mono ?_
   (case side1 => repeat (first | exact (Kd.R_reads' HO_318000.out).2.2 | (with_reducible first | refine zCa ?_ _ | refine zCn ?_ _ | refine zCd ?_)))
   (case side2 => exact (Kd.R_reads' HO_318000.out).2.1)
   (case side3 => repeat (first | exact (Kd.R_reads' HO_318001.out).2.2 | (with_reducible first | refine zCa ?_ _ | refine zCn ?_ _ | refine zCd ?_)))
   (case side4 => exact (Kd.R_reads' HO_318001.out).2.1)
   (case side5 => repeat (first | exact (Kd.R_reads' HO325.out).2.2 | (with_reducible first | refine zCa ?_ _ | refine zCn ?_ _ | refine zCd ?_)))
   (case side6 => exact (Kd.R_reads' HO325.out).2.1)
   (case side7 => repeat (first | exact (Kd.R_reads' HO328.out).2.2 | (with_reducible first | refine zCa ?_ _ | refine zCn ?_ _ | refine zCd ?_)))
   (case side8 => exact (Kd.R_reads' HO328.out).2.1)
   rintro e w46 ⟨rfl, hb⟩
   refine ⟨_, rfl, ?_⟩
   have n0_ := zM (Kd.R_below (by (with_reducible repeat (first | apply zRa | apply zRn | apply zRd)); first | exact HO_4.out | (subst_vars; exact HO_4.out)) hb)
   have n1_ := zM (Kd.R_below (by (with_reducible repeat (first | apply zRa | apply zRn | apply zRd)); first | exact HO_7.out | (subst_vars; exact HO_7.out)) hb)
   have n2_ := zM (Kd.R_below (by (with_reducible repeat (first | apply zRa | apply zRn | apply zRd)); first | exact HO_318000.out | (subst_vars; exact HO_318000.out)) hb)
   have n3_ := zM (Kd.R_below (by (with_reducible repeat (first | apply zRa | apply zRn | apply zRd)); first | exact HO_318001.out | (subst_vars; exact HO_318001.out)) hb)
   have n4_ := zM (Kd.R_below (by (with_reducible repeat (first | apply zRa | apply zRn | apply zRd)); first | exact HO325.out | (subst_vars; exact HO325.out)) hb)
   have n5_ := zM (Kd.R_below (by (with_reducible repeat (first | apply zRa | apply zRn | apply zRd)); first | exact HO328.out | (subst_vars; exact HO328.out)) hb)
   have n6_ := zM (zNb (g := gb299) (o := .cells #[.slice A0_0 l0_0.length c0_0, .slice A0_1 l0_1.length c0_1] 40 (0, 0)) (by (with_reducible repeat (first | apply zNn | apply zNd | apply zNa)); exact BK299.out) hb)
   have n7_ := zM (zNb (g := gb317) (o := .cells #[.slice Ao23 t311.length co23, .slice Ao26 t314.length co26] 46 (0, 0)) (by (with_reducible repeat (first | apply zNn | apply zNd | apply zNa)); exact BK317.out) hb)
   have n8_ := zM (below_step (by repeat (first | (with_reducible first | exact HB.out | apply zBa | apply zBn | apply zBd | refine zBs ?_ GE299.out | refine zBs ?_ GE317.out) | exact HB.out)) hb)
   clear HO_4
   clear HO_7
   clear HO_318000
   clear HO_318001
   clear HO325
   clear HO328
   clear BK299
   clear BK317
   clear HB
   have HO_4 := n0_
   have HO_7 := n1_
   have HO_318000 := n2_
   have HO_318001 := n3_
   have HO325 := n4_
   have HO328 := n5_
   have BK299 := n6_
   have BK317 := n7_
   have HB := n8_
   clear n0_ n1_ n2_ n3_ n4_ n5_ n6_ n7_ n8_
   (try clear hb)
   (try clear hb2)
   (try clear hk)
   (try clear hi)
   refine hK.out _ _ ⟨(blk_cell BK317.out 0).trans rfl, (blk_cell BK317.out 1).trans rfl, (blk_cell BK299.out 0).trans rfl, (blk_cell BK299.out 1).trans rfl⟩ (fun hHeld => ?_)
   clear hK K
   refine norm_ (a' := ?_) ?_ ?_
   rotate_left
   ·show Act.put _ (some 44) _ = _
    simp only [Act.put, zS1, zS2, zS3, i64_w, i32_w]
    rfl
   refine pure_ (i := 4) (N := some 45) (v := ?_) (a' := ?_) #[zt,zt,zt,zt,zt] rfl rfl (by kernel_rfl) (fun _ _ _ h => h) (Or.inl ⟨by rfl, ?_⟩) ?_ ?_
   rotate_left
   ·intro w'
    go_simp
    with_reducible rfl
   rotate_left
   ·simp only [Act.put, zS1, zS2, zS3, i64_w, i32_w]
    rfl
   refine done_ (by kernel_rfl) ?_
   have hnb47 := NB317_299.out
   have hnc47 := NB299_317.out
   obtain ⟨hcz48_0, hcz48_1, hfz48_0, hfz48_1⟩ := zc2 BK317.out
   go_upto_region 14 with (first | ((with_reducible refine gate_callee (f := 28) rfl ?_); refine goesL_ (some 48) rfl rfl Try.func28 (by kernel_rfl) rfl #[.agg #[.slice Ao23 t311.length co23, .slice Ao26 t314.length co26], .int .i64 1] rfl (by (try simp only [List.map_toArray, List.map_cons, List.map_nil]); first | done | rfl | (simp only [List.length_drop, List.length_take]; rfl)) ?_; (with_reducible refine (laws_markPlan.calls kj10 (fun k_ => some k_ = (.slice Ao23 t311.length co23 : Value).ownBlock) (.slice Ao23 t311.length co23) t311 (fun k_ => some k_ = (.slice Ao26 t314.length co26 : Value).ownBlock) (.slice Ao26 t314.length co26) t314 1 t330 t331 t332 w _ ?side1 ?side2 ?side3 A40.out).mono ?_); (case side1 => repeat (first | (with_reducible first | exact HB.out | apply zBa | apply zBn | apply zBd | refine zBs ?_ GE299.out | refine zBs ?_ GE317.out) | exact HB.out)); (case side2 => exact Kd.R_tight rfl HO_318000.out); (case side3 => exact Kd.R_tight rfl HO_318001.out); rintro e w49 ⟨rfl, hy0, hy1, hb, hkp⟩; refine ⟨_, rfl, ?_⟩; have n0_ := zM (Kd.R_mono (ok' := fun k_ => some k_ ≠ (v319 : Value).ownBlock) (Kd.R_keptB ((Kd.R_apart' (Kd.R_apart' HO_4.out (Kd.R_typed HO_318000.out) (by decide)) (Kd.R_typed HO_318001.out) (by decide))) hkp (fun k_ hk_ hs_ => Or.elim hs_ (fun e_ => (hk_.1.2) e_) (fun e_ => (hk_.2) e_))) (fun k_ hk_ => hk_.1.1.1)); have n1_ := zM (Kd.R_mono (ok' := fun k_ => some k_ ≠ (v308 : Value).ownBlock) (Kd.R_keptB ((Kd.R_apart' (Kd.R_apart' HO_7.out (Kd.R_typed HO_318000.out) (by decide)) (Kd.R_typed HO_318001.out) (by decide))) hkp (fun k_ hk_ hs_ => Or.elim hs_ (fun e_ => (hk_.1.2) e_) (fun e_ => (hk_.2) e_))) (fun k_ hk_ => hk_.1.1.1)); have n2_ := zM (Kd.R_reok rfl hy0 (fun k_ e_ => HO_318000.out.1 k_ e_)); have n3_ := zM (Kd.R_reok rfl hy1 (fun k_ e_ => HO_318001.out.1 k_ e_)); have n4_ := zM (blk_kept (by (with_reducible repeat (first | apply zNn | apply zNd | apply zNa)); exact BK299.out) hkp (fun hs_ => Or.elim hs_ (fun e_ => (fun e_ => (Kd.R_ne HO_318000.out BK299.out (by decide)) e_) e_) (fun e_ => (fun e_ => (Kd.R_ne HO_318001.out BK299.out (by decide)) e_) e_))); have n5_ := zM (blk_kept (by (with_reducible repeat (first | apply zNn | apply zNd | apply zNa)); exact BK317.out) hkp (fun hs_ => Or.elim hs_ (fun e_ => (fun e_ => (Kd.R_ne HO_318000.out BK317.out (by decide)) e_) e_) (fun e_ => (fun e_ => (Kd.R_ne HO_318001.out BK317.out (by decide)) e_) e_))); have n6_ := zM (Kd.R_mono (ok' := fun k_ => some k_ ≠ (.slice Ao23 t311.length co23 : Value).ownBlock) (Kd.R_keptB ((Kd.R_apart' HO325.out (Kd.R_typed HO_318001.out) (by decide))) hkp (fun k_ hk_ hs_ => Or.elim hs_ (fun e_ => (hk_.1.2) e_) (fun e_ => (hk_.2) e_))) (fun k_ hk_ => hk_.1.1.2)); have n7_ := zM (Kd.R_mono (ok' := fun k_ => some k_ ≠ (.slice Ao26 t314.length co26 : Value).ownBlock) (Kd.R_keptB ((Kd.R_apart' HO328.out (Kd.R_typed HO_318000.out) (by decide))) hkp (fun k_ hk_ hs_ => Or.elim hs_ (fun e_ => (hk_.2) e_) (fun e_ => (hk_.1.2) e_))) (fun k_ hk_ => hk_.1.1.2)); have n8_ := zM (hb); clear HO_4; clear HO_7; clear HO_318000; clear HO_318001; clear BK299; clear BK317; clear HO325; clear HO328; clear HB; have HO_4 := n0_; have HO_7 := n1_; have HO_318000 := n2_; have HO_318001 := n3_; have BK299 := n4_; have BK317 := n5_; have HO325 := n6_; have HO328 := n7_; have HB := n8_; clear n0_ n1_ n2_ n3_ n4_ n5_ n6_ n7_ n8_; (try clear hb); (try clear hkp); (try clear hy0); (try clear hy1)))
   (try simp only [Act.put, zS1, zS2, zS3])
   go_cut [61] (fun v61 wc => ∃ (kq : Nat) (x61_40 : Bool), v61 = .bool x61_40 ∧ Aside0 (laws_FnExactWiring.j1 kq t307 t310 t318 x61_40 l0_0 l0_1 = some r) ∧ Aside0 (kq ≤ kj10) ∧ Aside0 (Kd.R k80 80 wc w.heap.size (fun k_ => some k_ ≠ (v319 : Value).ownBlock) v308 t307) ∧ Aside0 (Kd.R k80 80 wc w.heap.size (fun k_ => some k_ ≠ (v308 : Value).ownBlock) v319 t318) ∧ Aside0 (Kd.R k94 94 wc w.heap.size (fun _ => True) (.slice Ao23 t311.length co23) t331) ∧ Aside0 (Kd.R k97 97 wc w.heap.size (fun _ => True) (.slice Ao26 t314.length co26) t332) ∧ Aside0 (wc.heap[gb299]? = some (.cells #[(.slice A0_0 l0_0.length c0_0), (.slice A0_1 l0_1.length c0_1)] 40 (0, 0))) ∧ Aside0 (wc.heap[gb317]? = some (.cells #[(.slice Ao23 t311.length co23), (.slice Ao26 t314.length co26)] 46 (0, 0))) ∧ Aside0 (Below w.heap.size w wc))
   case first =>
    have H := HC41.out
    clear HC41
    by_cases c50 : t330 < 0
    case pos =>
     rw [if_pos c50] at H
     have c50b0 : decide (t330 < 0) = true := zE c50
     clear c50
     (first | rw [c50b0] | (simp only [i64_w, i32_w]; rw [c50b0]) | skip)
     have H' := zM H
     clear H
     go_wp2
     go_meet
     case rel => exact ⟨_, (true), (by first | rfl | (simp; done) | (simp [*]; done)), H', ⟨by have := HJ10.out; first | omega | exact Nat.le_refl _⟩, ⟨by (with_reducible repeat (first | apply zRa | apply zRn | apply zRd)); first | exact HO_4.out | (subst_vars; exact HO_4.out)⟩, ⟨by (with_reducible repeat (first | apply zRa | apply zRn | apply zRd)); first | exact HO_7.out | (subst_vars; exact HO_7.out)⟩, ⟨by (with_reducible repeat (first | apply zRa | apply zRn | apply zRd)); first | exact Kd.R_mono HO_318000.out (fun _ hk => trivial) | (subst_vars; exact Kd.R_mono HO_318000.out (fun _ hk => trivial))⟩, ⟨by (with_reducible repeat (first | apply zRa | apply zRn | apply zRd)); first | exact Kd.R_mono HO_318001.out (fun _ hk => trivial) | (subst_vars; exact Kd.R_mono HO_318001.out (fun _ hk => trivial))⟩, ⟨by (with_reducible repeat (first | apply zNn | apply zNd | apply zNa)); exact BK299.out⟩, ⟨by (with_reducible repeat (first | apply zNn | apply zNd | apply zNa)); exact BK317.out⟩, ⟨by repeat (first | (with_reducible first | exact HB.out | apply zBa | apply zBn | apply zBd | refine zBs ?_ GE299.out | refine zBs ?_ GE317.out) | exact HB.out)⟩⟩
    rw [if_neg c50] at H
    have c50b0 : decide (t330 < 0) = false := decide_eq_false c50
    clear c50
    (first | rw [c50b0] | (simp only [i64_w, i32_w]; rw [c50b0]) | skip)
    replace H := zO.mp H
    obtain ⟨t333, A510, H⟩ := H
    replace H : (if t333 = true then (laws_FnExactWiring.j1 kj10 t307 t310 t318 (t321 != t310) l0_0 l0_1) else (laws_FnExactWiring.j1 kj10 t307 t310 t318 true l0_0 l0_1)) = some r := H
    have A51 := zM A510
    clear A510
    by_cases c52 : t333 = true
    case pos =>
     subst c52
     have H1 : (laws_FnExactWiring.j1 kj10 t307 t310 t318 (t321 != t310) l0_0 l0_1) = some r := by rw [if_pos rfl] at H; exact H
     clear H
     have H := H1
     clear H1
     have H' := zM H
     clear H
     obtain ⟨Ao53, co53, eo53⟩ := Kd.R_slice HO_7.out
     subst eo53
     obtain ⟨Ao54, co54, eo54⟩ := Kd.R_slice HO_4.out
     subst eo54
     go_wp2_with (first | (go_at_call 15; (with_reducible refine (laws_eqWireS.calls kj10 _ _ t318 _ _ t307 true _ ?side1 ?side2 ?side3 ?side4 A51.out).mono ?_); (case side1 => repeat (first | exact (Kd.R_reads' HO_7.out).2.2 | (with_reducible first | refine zCa ?_ _ | refine zCn ?_ _ | refine zCd ?_))); (case side2 => exact (Kd.R_reads' HO_7.out).2.1); (case side3 => repeat (first | exact (Kd.R_reads' HO_4.out).2.2 | (with_reducible first | refine zCa ?_ _ | refine zCn ?_ _ | refine zCd ?_))); (case side4 => exact (Kd.R_reads' HO_4.out).2.1); rintro e w55 ⟨rfl, hb⟩; have n0_ := zM (Kd.R_below (by (with_reducible repeat (first | apply zRa | apply zRn | apply zRd)); first | exact HO_4.out | (subst_vars; exact HO_4.out)) hb); have n1_ := zM (Kd.R_below (by (with_reducible repeat (first | apply zRa | apply zRn | apply zRd)); first | exact HO_7.out | (subst_vars; exact HO_7.out)) hb); have n2_ := zM (Kd.R_below (by (with_reducible repeat (first | apply zRa | apply zRn | apply zRd)); first | exact HO_318000.out | (subst_vars; exact HO_318000.out)) hb); have n3_ := zM (Kd.R_below (by (with_reducible repeat (first | apply zRa | apply zRn | apply zRd)); first | exact HO_318001.out | (subst_vars; exact HO_318001.out)) hb); have n4_ := zM (Kd.R_below (by (with_reducible repeat (first | apply zRa | apply zRn | apply zRd)); first | exact HO325.out | (subst_vars; exact HO325.out)) hb); have n5_ := zM (Kd.R_below (by (with_reducible repeat (first | apply zRa | apply zRn | apply zRd)); first | exact HO328.out | (subst_vars; exact HO328.out)) hb); have n6_ := zM (zNb (g := gb299) (o := .cells #[.slice A0_0 l0_0.length c0_0, .slice A0_1 l0_1.length c0_1] 40 (0, 0)) (by (with_reducible repeat (first | apply zNn | apply zNd | apply zNa)); exact BK299.out) hb); have n7_ := zM (zNb (g := gb317) (o := .cells #[.slice Ao23 t311.length co23, .slice Ao26 t314.length co26] 46 (0, 0)) (by (with_reducible repeat (first | apply zNn | apply zNd | apply zNa)); exact BK317.out) hb); have n8_ := zM (below_step (by repeat (first | (with_reducible first | exact HB.out | apply zBa | apply zBn | apply zBd | refine zBs ?_ GE299.out | refine zBs ?_ GE317.out) | exact HB.out)) hb); clear HO_4; clear HO_7; clear HO_318000; clear HO_318001; clear HO325; clear HO328; clear BK299; clear BK317; clear HB; have HO_4 := n0_; have HO_7 := n1_; have HO_318000 := n2_; have HO_318001 := n3_; have HO325 := n4_; have HO328 := n5_; have BK299 := n6_; have BK317 := n7_; have HB := n8_; clear n0_ n1_ n2_ n3_ n4_ n5_ n6_ n7_ n8_; (try clear hb); (try clear hb2); (try clear hk); (try clear hi)))
     go_meet
     case rel => exact ⟨_, ((t321 != t310)), (by first | rfl | (simp; done) | (simp [*]; done)), H', ⟨by have := HJ10.out; first | omega | exact Nat.le_refl _⟩, ⟨by (with_reducible repeat (first | apply zRa | apply zRn | apply zRd)); first | exact HO_4.out | (subst_vars; exact HO_4.out)⟩, ⟨by (with_reducible repeat (first | apply zRa | apply zRn | apply zRd)); first | exact HO_7.out | (subst_vars; exact HO_7.out)⟩, ⟨by (with_reducible repeat (first | apply zRa | apply zRn | apply zRd)); first | exact Kd.R_mono HO_318000.out (fun _ hk => trivial) | (subst_vars; exact Kd.R_mono HO_318000.out (fun _ hk => trivial))⟩, ⟨by (with_reducible repeat (first | apply zRa | apply zRn | apply zRd)); first | exact Kd.R_mono HO_318001.out (fun _ hk => trivial) | (subst_vars; exact Kd.R_mono HO_318001.out (fun _ hk => trivial))⟩, ⟨by (with_reducible repeat (first | apply zNn | apply zNd | apply zNa)); exact BK299.out⟩, ⟨by (with_reducible repeat (first | apply zNn | apply zNd | apply zNa)); exact BK317.out⟩, ⟨by repeat (first | (with_reducible first | exact HB.out | apply zBa | apply zBn | apply zBd | refine zBs ?_ GE299.out | refine zBs ?_ GE317.out) | exact HB.out)⟩⟩
    replace c52 := Bool.eq_false_iff.mpr c52
    subst c52
    have H1 : (laws_FnExactWiring.j1 kj10 t307 t310 t318 true l0_0 l0_1) = some r := by rw [if_neg (show ¬ (false = true) by decide)] at H; exact H
    clear H
    have H := H1
    clear H1
    have H' := zM H
    clear H
    obtain ⟨Ao56, co56, eo56⟩ := Kd.R_slice HO_7.out
    subst eo56
    obtain ⟨Ao57, co57, eo57⟩ := Kd.R_slice HO_4.out
    subst eo57
    go_wp2_with (first | (go_at_call 15; (with_reducible refine (laws_eqWireS.calls kj10 _ _ t318 _ _ t307 false _ ?side1 ?side2 ?side3 ?side4 A51.out).mono ?_); (case side1 => repeat (first | exact (Kd.R_reads' HO_7.out).2.2 | (with_reducible first | refine zCa ?_ _ | refine zCn ?_ _ | refine zCd ?_))); (case side2 => exact (Kd.R_reads' HO_7.out).2.1); (case side3 => repeat (first | exact (Kd.R_reads' HO_4.out).2.2 | (with_reducible first | refine zCa ?_ _ | refine zCn ?_ _ | refine zCd ?_))); (case side4 => exact (Kd.R_reads' HO_4.out).2.1); rintro e w58 ⟨rfl, hb⟩; have n0_ := zM (Kd.R_below (by (with_reducible repeat (first | apply zRa | apply zRn | apply zRd)); first | exact HO_4.out | (subst_vars; exact HO_4.out)) hb); have n1_ := zM (Kd.R_below (by (with_reducible repeat (first | apply zRa | apply zRn | apply zRd)); first | exact HO_7.out | (subst_vars; exact HO_7.out)) hb); have n2_ := zM (Kd.R_below (by (with_reducible repeat (first | apply zRa | apply zRn | apply zRd)); first | exact HO_318000.out | (subst_vars; exact HO_318000.out)) hb); have n3_ := zM (Kd.R_below (by (with_reducible repeat (first | apply zRa | apply zRn | apply zRd)); first | exact HO_318001.out | (subst_vars; exact HO_318001.out)) hb); have n4_ := zM (Kd.R_below (by (with_reducible repeat (first | apply zRa | apply zRn | apply zRd)); first | exact HO325.out | (subst_vars; exact HO325.out)) hb); have n5_ := zM (Kd.R_below (by (with_reducible repeat (first | apply zRa | apply zRn | apply zRd)); first | exact HO328.out | (subst_vars; exact HO328.out)) hb); have n6_ := zM (zNb (g := gb299) (o := .cells #[.slice A0_0 l0_0.length c0_0, .slice A0_1 l0_1.length c0_1] 40 (0, 0)) (by (with_reducible repeat (first | apply zNn | apply zNd | apply zNa)); exact BK299.out) hb); have n7_ := zM (zNb (g := gb317) (o := .cells #[.slice Ao23 t311.length co23, .slice Ao26 t314.length co26] 46 (0, 0)) (by (with_reducible repeat (first | apply zNn | apply zNd | apply zNa)); exact BK317.out) hb); have n8_ := zM (below_step (by repeat (first | (with_reducible first | exact HB.out | apply zBa | apply zBn | apply zBd | refine zBs ?_ GE299.out | refine zBs ?_ GE317.out) | exact HB.out)) hb); clear HO_4; clear HO_7; clear HO_318000; clear HO_318001; clear HO325; clear HO328; clear BK299; clear BK317; clear HB; have HO_4 := n0_; have HO_7 := n1_; have HO_318000 := n2_; have HO_318001 := n3_; have HO325 := n4_; have HO328 := n5_; have BK299 := n6_; have BK317 := n7_; have HB := n8_; clear n0_ n1_ n2_ n3_ n4_ n5_ n6_ n7_ n8_; (try clear hb); (try clear hb2); (try clear hk); (try clear hi)))
    go_meet
    case rel => exact ⟨_, (true), (by first | rfl | (simp; done) | (simp [*]; done)), H', ⟨by have := HJ10.out; first | omega | exact Nat.le_refl _⟩, ⟨by (with_reducible repeat (first | apply zRa | apply zRn | apply zRd)); first | exact HO_4.out | (subst_vars; exact HO_4.out)⟩, ⟨by (with_reducible repeat (first | apply zRa | apply zRn | apply zRd)); first | exact HO_7.out | (subst_vars; exact HO_7.out)⟩, ⟨by (with_reducible repeat (first | apply zRa | apply zRn | apply zRd)); first | exact Kd.R_mono HO_318000.out (fun _ hk => trivial) | (subst_vars; exact Kd.R_mono HO_318000.out (fun _ hk => trivial))⟩, ⟨by (with_reducible repeat (first | apply zRa | apply zRn | apply zRd)); first | exact Kd.R_mono HO_318001.out (fun _ hk => trivial) | (subst_vars; exact Kd.R_mono HO_318001.out (fun _ hk => trivial))⟩, ⟨by (with_reducible repeat (first | apply zNn | apply zNd | apply zNa)); exact BK299.out⟩, ⟨by (with_reducible repeat (first | apply zNn | apply zNd | apply zNa)); exact BK317.out⟩, ⟨by repeat (first | (with_reducible first | exact HB.out | apply zBa | apply zBn | apply zBd | refine zBs ?_ GE299.out | refine zBs ?_ GE317.out) | exact HB.out)⟩⟩
   case rest =>
    clear HC41
    try clear c1
    try clear c2
    try clear p2
    try clear c3
    try clear c3b0
    try clear c4
    try clear c5
    try clear c6
    try clear c15
    try clear c21
    try clear c23
    try clear c24
    try clear c25
    try clear c26
    try clear c27
    try clear c28
    try clear c29
    try clear c36
    try clear c39
    try clear c47
    try clear c50
    try clear c50b0
    try clear c52
    try clear hcz13_0
    try clear hcz13_1
    try clear hcz15_0
    try clear hcz15_1
    try clear hcz20_0
    try clear hcz20_1
    try clear hcz25_0
    try clear hcz25_1
    try clear hcz48_0
    try clear hcz48_1
    try clear hcz5_0
    try clear hcz5_1
    try clear hfz13_0
    try clear hfz13_1
    try clear hfz15_0
    try clear hfz15_1
    try clear hfz20_0
    try clear hfz20_1
    try clear hfz25_0
    try clear hfz25_1
    try clear hfz48_0
    try clear hfz48_1
    try clear hfz5_0
    try clear hfz5_1
    try clear p2
    obtain ⟨kq, x61_40, rfl, HA, HJ40, HO_4, HO_7, HO_318000, HO_318001, BK299, BK317, HB⟩ := hcut
    have hl318000_40 := (Kd.R_reads' HO_318000.out).1
    rw [hl318000_40] at HO_318000
    (try simp only [hl318000_40])
    (try simp only [hl318000_40] at BK299)
    (try simp only [hl318000_40] at BK317)
    (try simp only [hl318000_40] at HO_4)
    (try simp only [hl318000_40] at HO_7)
    (try simp only [hl318000_40] at HO_318001)
    have hl318001_40 := (Kd.R_reads' HO_318001.out).1
    rw [hl318001_40] at HO_318001
    (try simp only [hl318001_40])
    (try simp only [hl318001_40] at BK299)
    (try simp only [hl318001_40] at BK317)
    (try simp only [hl318001_40] at HO_4)
    (try simp only [hl318001_40] at HO_7)
    (try simp only [hl318001_40] at HO_318000)
    cases kq with
    | zero => exact absurd HA.out (by simp [laws_FnExactWiring.j1])
    | succ kj40 =>
     have H := HA.out
     clear HA
     simp only [laws_FnExactWiring.j1] at H
     by_cases c59 : x61_40 = true
     case pos =>
      subst c59
      have H1 : (some false) = some r := by rw [if_pos rfl] at H; exact H
      clear H
      have H := H1
      clear H1
      exact absurd (zI H) (by rw [hr_]; decide)
     replace c59 := Bool.eq_false_iff.mpr c59
     subst c59
     have H1 : ((laws_markWireS.f kj40 t318 1).bind fun bt334 => ((laws_heldWireS.f kj40 bt334.2 1).bind fun t336 => (if t336 < 0 then (some false) else (if t336 = bt334.1 then ((laws_toPlan.f kj40 l0_0 l0_1).bind fun bt337 => ((impl_Wiring.f kj40 bt337.1 bt337.2).bind fun bt343 => ((laws_eqWireS.f kj40 bt343.1 t307).bind fun t347 => (if t347 = true then (laws_FnExactWiring.j2 kj40 bt334.2 bt334.1 (bt343.2 != t310)) else (laws_FnExactWiring.j2 kj40 bt334.2 bt334.1 true))))) else (some false))))) = some r := by rw [if_neg (show ¬ (false = true) by decide)] at H; exact H
     clear H
     have H := H1
     clear H1
     replace H := zO.mp H
     obtain ⟨⟨t334, t335⟩, A600, H⟩ := H
     replace H : ((laws_heldWireS.f kj40 t335 1).bind fun t336 => (if t336 < 0 then (some false) else (if t336 = t334 then ((laws_toPlan.f kj40 l0_0 l0_1).bind fun bt337 => ((impl_Wiring.f kj40 bt337.1 bt337.2).bind fun bt343 => ((laws_eqWireS.f kj40 bt343.1 t307).bind fun t347 => (if t347 = true then (laws_FnExactWiring.j2 kj40 t335 t334 (bt343.2 != t310)) else (laws_FnExactWiring.j2 kj40 t335 t334 true))))) else (some false)))) = some r := H
     have A60 := zM A600
     clear A600
     replace H := zO.mp H
     obtain ⟨t336, A610, H⟩ := H
     replace H : (if t336 < 0 then (some false) else (if t336 = t334 then ((laws_toPlan.f kj40 l0_0 l0_1).bind fun bt337 => ((impl_Wiring.f kj40 bt337.1 bt337.2).bind fun bt343 => ((laws_eqWireS.f kj40 bt343.1 t307).bind fun t347 => (if t347 = true then (laws_FnExactWiring.j2 kj40 t335 t334 (bt343.2 != t310)) else (laws_FnExactWiring.j2 kj40 t335 t334 true))))) else (some false))) = some r := H
     have A61 := zM A610
     clear A610
     by_cases c62 : t336 < 0
     case pos =>
      rw [if_pos c62] at H
      have c62b0 : decide (t336 < 0) = true := zE c62
      (try (have c62w_hl318000_40 := c62b0; simp only [hl318000_40] at c62w_hl318000_40))
      (try (have c62w_hl318001_40 := c62b0; simp only [hl318001_40] at c62w_hl318001_40))
      clear c62
      exact absurd (zI H) (by rw [hr_]; decide)
     rw [if_neg c62] at H
     have c62b0 : decide (t336 < 0) = false := decide_eq_false c62
     (try (have c62w_hl318000_40 := c62b0; simp only [hl318000_40] at c62w_hl318000_40))
     (try (have c62w_hl318001_40 := c62b0; simp only [hl318001_40] at c62w_hl318001_40))
     clear c62
     by_cases c63 : t336 = t334
     case neg =>
      rw [if_neg c63] at H
      have c63b0 : (t336 == t334) = false := beq_eq_false_iff_ne.mpr c63
      have c63b1 : (t336 != t334) = true := bne_iff_ne.mpr c63
      (try (have c63w_hl318000_40 := c63b0; simp only [hl318000_40] at c63w_hl318000_40))
      (try (have c63w_hl318001_40 := c63b0; simp only [hl318001_40] at c63w_hl318001_40))
      exact absurd (zI H) (by rw [hr_]; decide)
     rw [if_pos c63] at H
     have c63b0 : (t336 == t334) = true := beq_iff_eq.mpr c63
     have c63b1 : (t336 != t334) = false := bne_eq_false_iff_eq.mpr c63
     (try (have c63w_hl318000_40 := c63b0; simp only [hl318000_40] at c63w_hl318000_40))
     (try (have c63w_hl318001_40 := c63b0; simp only [hl318001_40] at c63w_hl318001_40))
     clear c63
     replace H := zO.mp H
     obtain ⟨⟨t337, t340⟩, A640, H⟩ := H
     replace H : ((impl_Wiring.f kj40 t337 t340).bind fun bt343 => ((laws_eqWireS.f kj40 bt343.1 t307).bind fun t347 => (if t347 = true then (laws_FnExactWiring.j2 kj40 t335 t334 (bt343.2 != t310)) else (laws_FnExactWiring.j2 kj40 t335 t334 true)))) = some r := H
     have A64 := zM A640
     clear A640
     replace H := zO.mp H
     obtain ⟨⟨t343, t346⟩, A650, H⟩ := H
     replace H : ((laws_eqWireS.f kj40 t343 t307).bind fun t347 => (if t347 = true then (laws_FnExactWiring.j2 kj40 t335 t334 (t346 != t310)) else (laws_FnExactWiring.j2 kj40 t335 t334 true))) = some r := H
     have A65 := zM A650
     clear A650
     have HC66 := zM H
     clear H
     obtain ⟨Ao67, co67, eo67⟩ := Kd.R_slice HO_7.out
     subst eo67
     go_upto_region 25 with (first | ((with_reducible refine gate_callee (f := 16) rfl ?_); refine goesL_ (some 64) rfl rfl Try.func16 (by kernel_rfl) rfl #[.slice Ao67 t318.length co67, .int .i64 1] rfl (by (try simp only [List.map_toArray, List.map_cons, List.map_nil]); first | done | rfl | (simp only [List.length_drop, List.length_take]; rfl)) ?_; (with_reducible refine (laws_markWireS.calls kj40 (fun k_ => some k_ = (.slice Ao67 t318.length co67 : Value).ownBlock) (.slice Ao67 t318.length co67) t318 1 t334 t335 w _ ?side1 ?side2 A60.out).mono ?_); (case side1 => repeat (first | (with_reducible first | exact HB.out | apply zBa | apply zBn | apply zBd | refine zBs ?_ GE299.out | refine zBs ?_ GE317.out) | exact HB.out)); (case side2 => exact Kd.R_tight rfl HO_7.out); rintro e w68 ⟨rfl, hy0, hb, hkp⟩; refine ⟨_, rfl, ?_⟩; have n0_ := zM (Kd.R_mono (ok' := fun k_ => some k_ ≠ (.slice Ao67 t318.length co67 : Value).ownBlock) (Kd.R_keptB (HO_4.out) hkp (fun k_ hk_ hs_ => (hk_) hs_)) (fun k_ hk_ => hk_.1)); have n1_ := zM (Kd.R_reok rfl hy0 (fun k_ e_ => HO_7.out.1 k_ e_)); have n2_ := zM (Kd.R_mono (ok' := fun k_ => True) (Kd.R_keptB ((Kd.R_apart' HO_318000.out (Kd.R_typed HO_7.out) (by decide))) hkp (fun k_ hk_ hs_ => (hk_.2) hs_)) (fun k_ hk_ => trivial)); have n3_ := zM (Kd.R_mono (ok' := fun k_ => True) (Kd.R_keptB ((Kd.R_apart' HO_318001.out (Kd.R_typed HO_7.out) (by decide))) hkp (fun k_ hk_ hs_ => (hk_.2) hs_)) (fun k_ hk_ => trivial)); have n4_ := zM (blk_kept (by (with_reducible repeat (first | apply zNn | apply zNd | apply zNa)); exact BK299.out) hkp (fun hs_ => (fun e_ => (Kd.R_ne HO_7.out BK299.out (by decide)) e_) hs_)); have n5_ := zM (blk_kept (by (with_reducible repeat (first | apply zNn | apply zNd | apply zNa)); exact BK317.out) hkp (fun hs_ => (fun e_ => (Kd.R_ne HO_7.out BK317.out (by decide)) e_) hs_)); have n6_ := zM (hb); clear HO_4; clear HO_7; clear HO_318000; clear HO_318001; clear BK299; clear BK317; clear HB; have HO_4 := n0_; have HO_7 := n1_; have HO_318000 := n2_; have HO_318001 := n3_; have BK299 := n4_; have BK317 := n5_; have HB := n6_; clear n0_ n1_ n2_ n3_ n4_ n5_ n6_; (try clear hb); (try clear hkp); (try clear hy0)) | ((with_reducible refine gate_callee (f := 29) rfl ?_); refine goesL_ (some 67) rfl rfl Try.func29 (by kernel_rfl) rfl #[.slice Ao67 t335.length co67, .int .i64 1] rfl (by (try simp only [List.map_toArray, List.map_cons, List.map_nil]); first | done | (rw [show t335.length = t318.length from (Kd.R_reads' HO_7.out).1.symm] <;> rfl) | rfl | (simp only [List.length_drop, List.length_take]; rfl)) ?_; (with_reducible refine (laws_heldWireS.calls kj40 _ _ t335 1 t336 _ ?side1 ?side2 A61.out).mono ?_); (case side1 => repeat (first | exact (Kd.R_reads' HO_7.out).2.2 | (with_reducible first | refine zCa ?_ _ | refine zCn ?_ _ | refine zCd ?_))); (case side2 => rw [show t335.length = t318.length from (Kd.R_reads' HO_7.out).1.symm]; exact (Kd.R_reads' HO_7.out).2.1); rintro e w' ⟨rfl, ⟨nd, rfl⟩⟩; refine ⟨_, rfl, ?_⟩; have hnb69 := NB299_317.out; have hnc69 := NB317_299.out; obtain ⟨hcz70_0, hcz70_1, hfz70_0, hfz70_1⟩ := zc2 BK299.out) | ((with_reducible refine gate_callee (f := 23) rfl ?_); refine goesL_ (some 75) rfl rfl Try.func23 (by kernel_rfl) rfl #[.agg #[.slice A0_0 l0_0.length c0_0, .slice A0_1 l0_1.length c0_1]] rfl (by (try simp only [List.map_toArray, List.map_cons, List.map_nil]); first | done | rfl | (simp only [List.length_drop, List.length_take]; rfl)) ?_; (with_reducible refine (laws_toPlan.calls kj40 _ _ l0_0 _ _ l0_1 t337 t340 _ ?side1 ?side2 ?side3 ?side4 A64.out).mono ?_); (case side1 => repeat (first | exact (Kd.C_below HR0_0.out (by repeat (first | (with_reducible first | exact HB.out | apply zBa | apply zBn | apply zBd | refine zBs ?_ GE299.out | refine zBs ?_ GE317.out) | exact HB.out))) | (with_reducible first | refine zCa ?_ _ | refine zCn ?_ _ | refine zCd ?_))); (case side2 => exact HC0_0.out); (case side3 => repeat (first | exact (Kd.C_below HR0_1.out (by repeat (first | (with_reducible first | exact HB.out | apply zBa | apply zBn | apply zBd | refine zBs ?_ GE299.out | refine zBs ?_ GE317.out) | exact HB.out))) | (with_reducible first | refine zCa ?_ _ | refine zCn ?_ _ | refine zCd ?_))); (case side4 => exact HC0_1.out); rintro e w71 ⟨v338, v341, rfl, ho0, ho1, hb⟩; refine ⟨_, rfl, ?_⟩; have n0_ := zM (Kd.R_below (by (with_reducible repeat (first | apply zRa | apply zRn | apply zRd)); first | exact HO_4.out | (subst_vars; exact HO_4.out)) hb); have n1_ := zM (Kd.R_below (by (with_reducible repeat (first | apply zRa | apply zRn | apply zRd)); first | exact HO_7.out | (subst_vars; exact HO_7.out)) hb); have n2_ := zM (Kd.R_elder' (by (with_reducible repeat (first | apply zRa | apply zRn | apply zRd)); first | exact HO_318000.out | (subst_vars; exact HO_318000.out)) (Kd.R_base ho0) hb); have n3_ := zM (Kd.R_elder' (by (with_reducible repeat (first | apply zRa | apply zRn | apply zRd)); first | exact HO_318001.out | (subst_vars; exact HO_318001.out)) (Kd.R_base ho1) hb); have n4_ := zM (Kd.R_lower (Kd.R_new' ho0 (Kd.R_lt (by (with_reducible repeat (first | apply zRa | apply zRn | apply zRd)); first | exact HO_318000.out | (subst_vars; exact HO_318000.out)))) (below_size (by repeat (first | (with_reducible first | exact HB.out | apply zBa | apply zBn | apply zBd | refine zBs ?_ GE299.out | refine zBs ?_ GE317.out) | exact HB.out)))); have n5_ := zM (Kd.R_lower (Kd.R_new' ho1 (Kd.R_lt (by (with_reducible repeat (first | apply zRa | apply zRn | apply zRd)); first | exact HO_318001.out | (subst_vars; exact HO_318001.out)))) (below_size (by repeat (first | (with_reducible first | exact HB.out | apply zBa | apply zBn | apply zBd | refine zBs ?_ GE299.out | refine zBs ?_ GE317.out) | exact HB.out)))); have n6_ := zM (zNb (g := gb299) (o := .cells #[.slice A0_0 l0_0.length c0_0, .slice A0_1 l0_1.length c0_1] 40 (0, 0)) (by (with_reducible repeat (first | apply zNn | apply zNd | apply zNa)); exact BK299.out) hb); have n7_ := zM (zNb (g := gb317) (o := .cells #[.slice Ao23 t331.length co23, .slice Ao26 t332.length co26] 46 (0, 0)) (by (with_reducible repeat (first | apply zNn | apply zNd | apply zNa)); exact BK317.out) hb); have n8_ := zM (below_step (by repeat (first | (with_reducible first | exact HB.out | apply zBa | apply zBn | apply zBd | refine zBs ?_ GE299.out | refine zBs ?_ GE317.out) | exact HB.out)) hb); clear HO_4; clear HO_7; clear HO_318000; clear HO_318001; clear BK299; clear BK317; clear HB; have HO_4 := n0_; have HO_7 := n1_; have HO_318000 := n2_; have HO_318001 := n3_; have HO339 := n4_; have HO342 := n5_; have BK299 := n6_; have BK317 := n7_; have HB := n8_; clear n0_ n1_ n2_ n3_ n4_ n5_ n6_ n7_ n8_; (try clear hb); (try clear hb2); (try clear hk); (try clear hi); (try clear ho0); (try clear ho1); obtain ⟨Ao72, co72, eo72⟩ := Kd.R_slice HO339.out; subst eo72; obtain ⟨Ao73, co73, eo73⟩ := Kd.R_slice HO342.out; subst eo73) | ((with_reducible refine gate_callee (f := 27) rfl ?_); refine goesL_ (some 76) rfl rfl Try.func27 (by kernel_rfl) rfl #[.agg #[.slice Ao72 t337.length co72, .slice Ao73 t340.length co73]] rfl (by (try simp only [List.map_toArray, List.map_cons, List.map_nil]); first | done | rfl | (simp only [List.length_drop, List.length_take]; rfl)) ?_; (with_reducible refine (impl_Wiring.calls kj40 _ _ t337 _ _ t340 t343 t346 _ ?side1 ?side2 ?side3 ?side4 A65.out).mono ?_); (case side1 => repeat (first | exact (Kd.R_reads' HO339.out).2.2 | (with_reducible first | refine zCa ?_ _ | refine zCn ?_ _ | refine zCd ?_))); (case side2 => exact (Kd.R_reads' HO339.out).2.1); (case side3 => repeat (first | exact (Kd.R_reads' HO342.out).2.2 | (with_reducible first | refine zCa ?_ _ | refine zCn ?_ _ | refine zCd ?_))); (case side4 => exact (Kd.R_reads' HO342.out).2.1); rintro e w74 ⟨v344, rfl, ho0, hb⟩; refine ⟨_, rfl, ?_⟩; have n0_ := zM (Kd.R_elder' (by (with_reducible repeat (first | apply zRa | apply zRn | apply zRd)); first | exact HO_4.out | (subst_vars; exact HO_4.out)) (Kd.R_base ho0) hb); have n1_ := zM (Kd.R_elder' (by (with_reducible repeat (first | apply zRa | apply zRn | apply zRd)); first | exact HO_7.out | (subst_vars; exact HO_7.out)) (Kd.R_base ho0) hb); have n2_ := zM (Kd.R_below (by (with_reducible repeat (first | apply zRa | apply zRn | apply zRd)); first | exact HO_318000.out | (subst_vars; exact HO_318000.out)) hb); have n3_ := zM (Kd.R_below (by (with_reducible repeat (first | apply zRa | apply zRn | apply zRd)); first | exact HO_318001.out | (subst_vars; exact HO_318001.out)) hb); have n4_ := zM (Kd.R_below (by (with_reducible repeat (first | apply zRa | apply zRn | apply zRd)); first | exact HO339.out | (subst_vars; exact HO339.out)) hb); have n5_ := zM (Kd.R_below (by (with_reducible repeat (first | apply zRa | apply zRn | apply zRd)); first | exact HO342.out | (subst_vars; exact HO342.out)) hb); have n6_ := zM (Kd.R_lower (Kd.R_new' (Kd.R_new' ho0 (Kd.R_lt (by (with_reducible repeat (first | apply zRa | apply zRn | apply zRd)); first | exact HO_4.out | (subst_vars; exact HO_4.out)))) (Kd.R_lt (by (with_reducible repeat (first | apply zRa | apply zRn | apply zRd)); first | exact HO_7.out | (subst_vars; exact HO_7.out)))) (below_size (by repeat (first | (with_reducible first | exact HB.out | apply zBa | apply zBn | apply zBd | refine zBs ?_ GE299.out | refine zBs ?_ GE317.out) | exact HB.out)))); have n7_ := zM (zNb (g := gb299) (o := .cells #[.slice A0_0 l0_0.length c0_0, .slice A0_1 l0_1.length c0_1] 40 (0, 0)) (by (with_reducible repeat (first | apply zNn | apply zNd | apply zNa)); exact BK299.out) hb); have n8_ := zM (zNb (g := gb317) (o := .cells #[.slice Ao23 t331.length co23, .slice Ao26 t332.length co26] 46 (0, 0)) (by (with_reducible repeat (first | apply zNn | apply zNd | apply zNa)); exact BK317.out) hb); have n9_ := zM (below_step (by repeat (first | (with_reducible first | exact HB.out | apply zBa | apply zBn | apply zBd | refine zBs ?_ GE299.out | refine zBs ?_ GE317.out) | exact HB.out)) hb); clear HO_4; clear HO_7; clear HO_318000; clear HO_318001; clear HO339; clear HO342; clear BK299; clear BK317; clear HB; have HO_4 := n0_; have HO_7 := n1_; have HO_318000 := n2_; have HO_318001 := n3_; have HO339 := n4_; have HO342 := n5_; have HO345 := n6_; have BK299 := n7_; have BK317 := n8_; have HB := n9_; clear n0_ n1_ n2_ n3_ n4_ n5_ n6_ n7_ n8_ n9_; (try clear hb); (try clear hb2); (try clear hk); (try clear hi); (try clear ho0)))
     (try simp only [Act.put, zS1, zS2, zS3])
     go_cut [87] (fun v87 wc => ∃ (kq : Nat) (x87_65 : Bool), v87 = .bool x87_65 ∧ Aside0 (laws_FnExactWiring.j2 kq t335 t334 x87_65 = some r) ∧ Aside0 (kq ≤ kj40) ∧ Aside0 (Kd.R k80 80 wc w.heap.size (fun _ => True) (.slice Ao67 t318.length co67) t335) ∧ Aside0 (Kd.R k94 94 wc w.heap.size (fun _ => True) (.slice Ao23 t331.length co23) t331) ∧ Aside0 (Kd.R k97 97 wc w.heap.size (fun _ => True) (.slice Ao26 t332.length co26) t332) ∧ Aside0 (wc.heap[gb299]? = some (.cells #[(.slice A0_0 l0_0.length c0_0), (.slice A0_1 l0_1.length c0_1)] 40 (0, 0))) ∧ Aside0 (wc.heap[gb317]? = some (.cells #[(.slice Ao23 t331.length co23), (.slice Ao26 t332.length co26)] 46 (0, 0))) ∧ Aside0 (Below w.heap.size w wc))
     case first =>
      have H := HC66.out
      clear HC66
      replace H := zO.mp H
      obtain ⟨t347, A750, H⟩ := H
      replace H : (if t347 = true then (laws_FnExactWiring.j2 kj40 t335 t334 (t346 != t310)) else (laws_FnExactWiring.j2 kj40 t335 t334 true)) = some r := H
      have A75 := zM A750
      clear A750
      by_cases c76 : t347 = true
      case pos =>
       subst c76
       have H1 : (laws_FnExactWiring.j2 kj40 t335 t334 (t346 != t310)) = some r := by rw [if_pos rfl] at H; exact H
       clear H
       have H := H1
       clear H1
       have H' := zM H
       clear H
       obtain ⟨Ao77, co77, eo77⟩ := Kd.R_slice HO345.out
       subst eo77
       obtain ⟨Ao78, co78, eo78⟩ := Kd.R_slice HO_4.out
       subst eo78
       go_wp2_with (first | ((with_reducible refine gate_callee (f := 15) rfl ?_); refine goesL_ (some 81) rfl rfl Try.func15 (by kernel_rfl) rfl #[.slice Ao77 t343.length co77, .slice Ao78 t307.length co78] rfl (by (try simp only [List.map_toArray, List.map_cons, List.map_nil]); first | done | rfl | (simp only [List.length_drop, List.length_take]; rfl)) ?_; (with_reducible refine (laws_eqWireS.calls kj40 _ _ t343 _ _ t307 true _ ?side1 ?side2 ?side3 ?side4 A75.out).mono ?_); (case side1 => repeat (first | exact (Kd.R_reads' HO345.out).2.2 | (with_reducible first | refine zCa ?_ _ | refine zCn ?_ _ | refine zCd ?_))); (case side2 => exact (Kd.R_reads' HO345.out).2.1); (case side3 => repeat (first | exact (Kd.R_reads' HO_4.out).2.2 | (with_reducible first | refine zCa ?_ _ | refine zCn ?_ _ | refine zCd ?_))); (case side4 => exact (Kd.R_reads' HO_4.out).2.1); rintro e w79 ⟨rfl, hb⟩; refine ⟨_, rfl, ?_⟩; have n0_ := zM (Kd.R_below (by (with_reducible repeat (first | apply zRa | apply zRn | apply zRd)); first | exact HO_4.out | (subst_vars; exact HO_4.out)) hb); have n1_ := zM (Kd.R_below (by (with_reducible repeat (first | apply zRa | apply zRn | apply zRd)); first | exact HO_7.out | (subst_vars; exact HO_7.out)) hb); have n2_ := zM (Kd.R_below (by (with_reducible repeat (first | apply zRa | apply zRn | apply zRd)); first | exact HO_318000.out | (subst_vars; exact HO_318000.out)) hb); have n3_ := zM (Kd.R_below (by (with_reducible repeat (first | apply zRa | apply zRn | apply zRd)); first | exact HO_318001.out | (subst_vars; exact HO_318001.out)) hb); have n4_ := zM (Kd.R_below (by (with_reducible repeat (first | apply zRa | apply zRn | apply zRd)); first | exact HO339.out | (subst_vars; exact HO339.out)) hb); have n5_ := zM (Kd.R_below (by (with_reducible repeat (first | apply zRa | apply zRn | apply zRd)); first | exact HO342.out | (subst_vars; exact HO342.out)) hb); have n6_ := zM (Kd.R_below (by (with_reducible repeat (first | apply zRa | apply zRn | apply zRd)); first | exact HO345.out | (subst_vars; exact HO345.out)) hb); have n7_ := zM (zNb (g := gb299) (o := .cells #[.slice A0_0 l0_0.length c0_0, .slice A0_1 l0_1.length c0_1] 40 (0, 0)) (by (with_reducible repeat (first | apply zNn | apply zNd | apply zNa)); exact BK299.out) hb); have n8_ := zM (zNb (g := gb317) (o := .cells #[.slice Ao23 t331.length co23, .slice Ao26 t332.length co26] 46 (0, 0)) (by (with_reducible repeat (first | apply zNn | apply zNd | apply zNa)); exact BK317.out) hb); have n9_ := zM (below_step (by repeat (first | (with_reducible first | exact HB.out | apply zBa | apply zBn | apply zBd | refine zBs ?_ GE299.out | refine zBs ?_ GE317.out) | exact HB.out)) hb); clear HO_4; clear HO_7; clear HO_318000; clear HO_318001; clear HO339; clear HO342; clear HO345; clear BK299; clear BK317; clear HB; have HO_4 := n0_; have HO_7 := n1_; have HO_318000 := n2_; have HO_318001 := n3_; have HO339 := n4_; have HO342 := n5_; have HO345 := n6_; have BK299 := n7_; have BK317 := n8_; have HB := n9_; clear n0_ n1_ n2_ n3_ n4_ n5_ n6_ n7_ n8_ n9_; (try clear hb); (try clear hb2); (try clear hk); (try clear hi)))
       go_meet
       case rel => exact ⟨_, ((t346 != t310)), (by first | rfl | (simp; done) | (simp [*]; done)), H', ⟨by have := HJ10.out; have := HJ40.out; first | omega | exact Nat.le_refl _⟩, ⟨by (try simp only [hl318000_40]); (try simp only [hl318001_40]); (with_reducible repeat (first | apply zRa | apply zRn | apply zRd)); first | exact Kd.R_mono HO_7.out (fun _ hk => trivial) | (subst_vars; exact Kd.R_mono HO_7.out (fun _ hk => trivial))⟩, ⟨by (try simp only [hl318000_40]); (try simp only [hl318001_40]); (with_reducible repeat (first | apply zRa | apply zRn | apply zRd)); first | exact Kd.R_mono HO_318000.out (fun _ hk => trivial) | (subst_vars; exact Kd.R_mono HO_318000.out (fun _ hk => trivial))⟩, ⟨by (try simp only [hl318000_40]); (try simp only [hl318001_40]); (with_reducible repeat (first | apply zRa | apply zRn | apply zRd)); first | exact Kd.R_mono HO_318001.out (fun _ hk => trivial) | (subst_vars; exact Kd.R_mono HO_318001.out (fun _ hk => trivial))⟩, ⟨by (try simp only [hl318000_40]); (try simp only [hl318001_40]); (with_reducible repeat (first | apply zNn | apply zNd | apply zNa)); exact BK299.out⟩, ⟨by (try simp only [hl318000_40]); (try simp only [hl318001_40]); (with_reducible repeat (first | apply zNn | apply zNd | apply zNa)); exact BK317.out⟩, ⟨by repeat (first | (with_reducible first | exact HB.out | apply zBa | apply zBn | apply zBd | refine zBs ?_ GE299.out | refine zBs ?_ GE317.out) | exact HB.out)⟩⟩
      replace c76 := Bool.eq_false_iff.mpr c76
      subst c76
      have H1 : (laws_FnExactWiring.j2 kj40 t335 t334 true) = some r := by rw [if_neg (show ¬ (false = true) by decide)] at H; exact H
      clear H
      have H := H1
      clear H1
      have H' := zM H
      clear H
      obtain ⟨Ao80, co80, eo80⟩ := Kd.R_slice HO345.out
      subst eo80
      obtain ⟨Ao81, co81, eo81⟩ := Kd.R_slice HO_4.out
      subst eo81
      go_wp2_with (first | ((with_reducible refine gate_callee (f := 15) rfl ?_); refine goesL_ (some 81) rfl rfl Try.func15 (by kernel_rfl) rfl #[.slice Ao80 t343.length co80, .slice Ao81 t307.length co81] rfl (by (try simp only [List.map_toArray, List.map_cons, List.map_nil]); first | done | rfl | (simp only [List.length_drop, List.length_take]; rfl)) ?_; (with_reducible refine (laws_eqWireS.calls kj40 _ _ t343 _ _ t307 false _ ?side1 ?side2 ?side3 ?side4 A75.out).mono ?_); (case side1 => repeat (first | exact (Kd.R_reads' HO345.out).2.2 | (with_reducible first | refine zCa ?_ _ | refine zCn ?_ _ | refine zCd ?_))); (case side2 => exact (Kd.R_reads' HO345.out).2.1); (case side3 => repeat (first | exact (Kd.R_reads' HO_4.out).2.2 | (with_reducible first | refine zCa ?_ _ | refine zCn ?_ _ | refine zCd ?_))); (case side4 => exact (Kd.R_reads' HO_4.out).2.1); rintro e w82 ⟨rfl, hb⟩; refine ⟨_, rfl, ?_⟩; have n0_ := zM (Kd.R_below (by (with_reducible repeat (first | apply zRa | apply zRn | apply zRd)); first | exact HO_4.out | (subst_vars; exact HO_4.out)) hb); have n1_ := zM (Kd.R_below (by (with_reducible repeat (first | apply zRa | apply zRn | apply zRd)); first | exact HO_7.out | (subst_vars; exact HO_7.out)) hb); have n2_ := zM (Kd.R_below (by (with_reducible repeat (first | apply zRa | apply zRn | apply zRd)); first | exact HO_318000.out | (subst_vars; exact HO_318000.out)) hb); have n3_ := zM (Kd.R_below (by (with_reducible repeat (first | apply zRa | apply zRn | apply zRd)); first | exact HO_318001.out | (subst_vars; exact HO_318001.out)) hb); have n4_ := zM (Kd.R_below (by (with_reducible repeat (first | apply zRa | apply zRn | apply zRd)); first | exact HO339.out | (subst_vars; exact HO339.out)) hb); have n5_ := zM (Kd.R_below (by (with_reducible repeat (first | apply zRa | apply zRn | apply zRd)); first | exact HO342.out | (subst_vars; exact HO342.out)) hb); have n6_ := zM (Kd.R_below (by (with_reducible repeat (first | apply zRa | apply zRn | apply zRd)); first | exact HO345.out | (subst_vars; exact HO345.out)) hb); have n7_ := zM (zNb (g := gb299) (o := .cells #[.slice A0_0 l0_0.length c0_0, .slice A0_1 l0_1.length c0_1] 40 (0, 0)) (by (with_reducible repeat (first | apply zNn | apply zNd | apply zNa)); exact BK299.out) hb); have n8_ := zM (zNb (g := gb317) (o := .cells #[.slice Ao23 t331.length co23, .slice Ao26 t332.length co26] 46 (0, 0)) (by (with_reducible repeat (first | apply zNn | apply zNd | apply zNa)); exact BK317.out) hb); have n9_ := zM (below_step (by repeat (first | (with_reducible first | exact HB.out | apply zBa | apply zBn | apply zBd | refine zBs ?_ GE299.out | refine zBs ?_ GE317.out) | exact HB.out)) hb); clear HO_4; clear HO_7; clear HO_318000; clear HO_318001; clear HO339; clear HO342; clear HO345; clear BK299; clear BK317; clear HB; have HO_4 := n0_; have HO_7 := n1_; have HO_318000 := n2_; have HO_318001 := n3_; have HO339 := n4_; have HO342 := n5_; have HO345 := n6_; have BK299 := n7_; have BK317 := n8_; have HB := n9_; clear n0_ n1_ n2_ n3_ n4_ n5_ n6_ n7_ n8_ n9_; (try clear hb); (try clear hb2); (try clear hk); (try clear hi)))
      go_meet
      case rel => exact ⟨_, (true), (by first | rfl | (simp; done) | (simp [*]; done)), H', ⟨by have := HJ10.out; have := HJ40.out; first | omega | exact Nat.le_refl _⟩, ⟨by (try simp only [hl318000_40]); (try simp only [hl318001_40]); (with_reducible repeat (first | apply zRa | apply zRn | apply zRd)); first | exact Kd.R_mono HO_7.out (fun _ hk => trivial) | (subst_vars; exact Kd.R_mono HO_7.out (fun _ hk => trivial))⟩, ⟨by (try simp only [hl318000_40]); (try simp only [hl318001_40]); (with_reducible repeat (first | apply zRa | apply zRn | apply zRd)); first | exact Kd.R_mono HO_318000.out (fun _ hk => trivial) | (subst_vars; exact Kd.R_mono HO_318000.out (fun _ hk => trivial))⟩, ⟨by (try simp only [hl318000_40]); (try simp only [hl318001_40]); (with_reducible repeat (first | apply zRa | apply zRn | apply zRd)); first | exact Kd.R_mono HO_318001.out (fun _ hk => trivial) | (subst_vars; exact Kd.R_mono HO_318001.out (fun _ hk => trivial))⟩, ⟨by (try simp only [hl318000_40]); (try simp only [hl318001_40]); (with_reducible repeat (first | apply zNn | apply zNd | apply zNa)); exact BK299.out⟩, ⟨by (try simp only [hl318000_40]); (try simp only [hl318001_40]); (with_reducible repeat (first | apply zNn | apply zNd | apply zNa)); exact BK317.out⟩, ⟨by repeat (first | (with_reducible first | exact HB.out | apply zBa | apply zBn | apply zBd | refine zBs ?_ GE299.out | refine zBs ?_ GE317.out) | exact HB.out)⟩⟩
     case rest =>
      clear HC66
      try clear c1
      try clear c2
      try clear p2
      try clear c3
      try clear c3b0
      try clear c4
      try clear c5
      try clear c6
      try clear c7
      try clear c15
      try clear c16
      try clear c21
      try clear c23
      try clear c24
      try clear c25
      try clear c26
      try clear c27
      try clear c28
      try clear c29
      try clear c36
      try clear c39
      try clear c47
      try clear c50
      try clear c50b0
      try clear c52
      try clear c59
      try clear c62
      try clear c62b0
      try clear c63
      try clear c63b0
      try clear c63b1
      try clear c69
      try clear c76
      try clear hcz13_0
      try clear hcz13_1
      try clear hcz15_0
      try clear hcz15_1
      try clear hcz20_0
      try clear hcz20_1
      try clear hcz25_0
      try clear hcz25_1
      try clear hcz48_0
      try clear hcz48_1
      try clear hcz5_0
      try clear hcz5_1
      try clear hcz70_0
      try clear hcz70_1
      try clear hfz13_0
      try clear hfz13_1
      try clear hfz15_0
      try clear hfz15_1
      try clear hfz20_0
      try clear hfz20_1
      try clear hfz25_0
      try clear hfz25_1
      try clear hfz48_0
      try clear hfz48_1
      try clear hfz5_0
      try clear hfz5_1
      try clear hfz70_0
      try clear hfz70_1
      try clear p2
      obtain ⟨kq, x87_65, rfl, HA, HJ65, HO_7, HO_318000, HO_318001, BK299, BK317, HB⟩ := hcut
      have hl7_65 := (Kd.R_reads' HO_7.out).1
      rw [hl7_65] at HO_7
      (try simp only [hl7_65])
      (try simp only [hl7_65] at BK299)
      (try simp only [hl7_65] at BK317)
      (try simp only [hl7_65] at HO_318000)
      (try simp only [hl7_65] at HO_318001)
      cases kq with
      | zero => exact absurd HA.out (by simp [laws_FnExactWiring.j2])
      | succ kj65 =>
       have H := HA.out
       clear HA
       simp only [laws_FnExactWiring.j2] at H
       by_cases c83 : x87_65 = true
       case pos =>
        subst c83
        have H1 : (some false) = some r := by rw [if_pos rfl] at H; exact H
        clear H
        have H := H1
        clear H1
        exact absurd (zI H) (by rw [hr_]; decide)
       replace c83 := Bool.eq_false_iff.mpr c83
       subst c83
       have H1 : ((laws_heldWireS.f kj65 t335 1).bind fun t348 => (if t348 < 0 then (some false) else (if t348 = t334 then (some true) else (some false)))) = some r := by rw [if_neg (show ¬ (false = true) by decide)] at H; exact H
       clear H
       have H := H1
       clear H1
       replace H := zO.mp H
       obtain ⟨t348, A840, H⟩ := H
       replace H : (if t348 < 0 then (some false) else (if t348 = t334 then (some true) else (some false))) = some r := H
       have A84 := zM A840
       clear A840
       by_cases c85 : t348 < 0
       case pos =>
        rw [if_pos c85] at H
        have c85b0 : decide (t348 < 0) = true := zE c85
        (try (have c85w_hl318000_40 := c85b0; simp only [hl318000_40] at c85w_hl318000_40))
        (try (have c85w_hl318001_40 := c85b0; simp only [hl318001_40] at c85w_hl318001_40))
        (try (have c85w_hl7_65 := c85b0; simp only [hl7_65] at c85w_hl7_65))
        clear c85
        exact absurd (zI H) (by rw [hr_]; decide)
       rw [if_neg c85] at H
       have c85b0 : decide (t348 < 0) = false := decide_eq_false c85
       (try (have c85w_hl318000_40 := c85b0; simp only [hl318000_40] at c85w_hl318000_40))
       (try (have c85w_hl318001_40 := c85b0; simp only [hl318001_40] at c85w_hl318001_40))
       (try (have c85w_hl7_65 := c85b0; simp only [hl7_65] at c85w_hl7_65))
       clear c85
       by_cases c86 : t348 = t334
       case neg =>
        rw [if_neg c86] at H
        have c86b0 : (t348 == t334) = false := beq_eq_false_iff_ne.mpr c86
        have c86b1 : (t348 != t334) = true := bne_iff_ne.mpr c86
        (try (have c86w_hl318000_40 := c86b0; simp only [hl318000_40] at c86w_hl318000_40))
        (try (have c86w_hl318001_40 := c86b0; simp only [hl318001_40] at c86w_hl318001_40))
        (try (have c86w_hl7_65 := c86b0; simp only [hl7_65] at c86w_hl7_65))
        exact absurd (zI H) (by rw [hr_]; decide)
       rw [if_pos c86] at H
       have c86b0 : (t348 == t334) = true := beq_iff_eq.mpr c86
       have c86b1 : (t348 != t334) = false := bne_eq_false_iff_eq.mpr c86
       (try (have c86w_hl318000_40 := c86b0; simp only [hl318000_40] at c86w_hl318000_40))
       (try (have c86w_hl318001_40 := c86b0; simp only [hl318001_40] at c86w_hl318001_40))
       (try (have c86w_hl7_65 := c86b0; simp only [hl7_65] at c86w_hl7_65))
       clear c86
       obtain rfl := zI H
       go_wp2_with (first | ((with_reducible refine gate_callee (f := 29) rfl ?_); refine goesL_ (some 90) rfl rfl Try.func29 (by kernel_rfl) rfl #[.slice Ao67 t335.length co67, .int .i64 1] rfl (by (try simp only [List.map_toArray, List.map_cons, List.map_nil]); first | done | rfl | (simp only [List.length_drop, List.length_take]; rfl)) ?_; (with_reducible refine (laws_heldWireS.calls kj65 _ _ t335 1 t348 _ ?side1 ?side2 A84.out).mono ?_); (case side1 => repeat (first | exact (Kd.R_reads' HO_7.out).2.2 | (with_reducible first | refine zCa ?_ _ | refine zCn ?_ _ | refine zCd ?_))); (case side2 => exact (Kd.R_reads' HO_7.out).2.1); rintro e w' ⟨rfl, ⟨nd, rfl⟩⟩; refine ⟨_, rfl, ?_⟩))
       go_ret
       exact ⟨by first | rfl | (simp [errW_none, errW_some] <;> rfl) | (simp [*, errW_none, errW_some] <;> rfl), by repeat (first | (with_reducible first | exact HB.out | apply zBa | apply zBn | apply zBd | refine zBs ?_ GE299.out | refine zBs ?_ GE317.out) | exact HB.out)⟩

end Go.Proofs.Ytckadpomhdjkhaa.PFnExactWiring
