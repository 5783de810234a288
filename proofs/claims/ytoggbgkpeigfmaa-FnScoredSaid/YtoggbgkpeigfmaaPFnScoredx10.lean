-- Written by a turned copy of the print (see the notes of this repo): plain functions and their walks. Lean checks it.
import Derived.Test.YtoggbgkpeigfmaaPFnScoredx0
import Derived.Test.YtoggbgkpeigfmaaPFnScoredx1
import Derived.Test.YtoggbgkpeigfmaaPFnScoredx8
import Derived.Test.YtoggbgkpeigfmaaPFnScoredx9
namespace Go.Proofs.Ytoggbgkpeigfmaa.PFnScored
open Go.RowKit Go.Proofs.YtoggbgkpeigfmaaW.PrintWords Go.Proofs.YtoggbgkpeigfmaaW.PrintLast Go.Proofs.YtoggbgkpeigfmaaW.PrintMore
attribute [local go_sem] max2_int min2_int max_two min_two max_three min_three max_four min_four   -- for this text's walks alone
set_option linter.unusedVariables false
set_option linter.unusedSimpArgs false

/-! ### spec_DrawLikeliest: function 17 -/
mutual
def spec_DrawLikeliest.l0 : Nat → Int → Int → Int → Bool → List Int → Int → List Int → Int → Int → Option (Int × Int × Int × List Int)
 | 0, _, _, _, _, _, _, _, _, _ => none
 | k + 1, x7, x8, x9, x12, x13, x15, x255000, x255001, x255002 => if x15 < (x13.length : Int) then ((spec_l1Once.f x255000 x255001 x255002 5).bind fun bt280 => (if bt280.1 = true then ((spec_l1Below.f x255000 bt280.2.1 bt280.2.2 9).bind fun bt283 => (if 0 ≤ x15 then (spec_DrawLikeliest.l0 k x7 x8 x9 x12 (x13.set (x15 : Int).toNat (wrap64 (bt283.1 - 4))) (wrap64 (x15 + 1)) x255000 bt283.2.1 bt283.2.2) else (none))) else (spec_DrawLikeliest.l0 k x7 x8 x9 x12 x13 (wrap64 (x15 + 1)) x255000 bt280.2.1 bt280.2.2))) else (if x12 = true then (spec_DrawLikeliest.j1 k x7 x8 x9 x13 x255000 x255001 x255002) else (if 8 ≤ 35184372088832 then (spec_DrawLikeliest.j1 k x7 x8 x9 (List.replicate 8 0) x255000 x255001 x255002) else (none)))
def spec_DrawLikeliest.j1 : Nat → Int → Int → Int → List Int → List Int → Int → Int → Option (Int × Int × Int × List Int)
 | 0, _, _, _, _, _, _, _ => none
 | k + 1, x7, x8, x9, x13, x255000, x255001, x255002 => (spec_l1Below.f x255000 x255001 x255002 30).bind fun bt290 => (if bt290.1 = 0 then (if x13.length < 17592186044416 then (some (x7, x8, x9, (x13 ++ [1]))) else (none)) else (if bt290.1 = 1 then ((spec_l1PickInt.f x255000 bt290.2.1 bt290.2.2 (([100, 101, (-101)] : List Int))).bind fun bt299 => ((some (([bt299.1, 0] : List Int) : List Int)).bind fun y302 => (if x13.length + y302.length < 17592186044416 then (some (x7, x8, x9, (x13 ++ y302))) else (none)))) else (some (x7, x8, x9, x13))))
end
def spec_DrawLikeliest.f (k : Nat) (l0 : List Int) : Option (Int × Int × Int × List Int) := (spec_l1New.f k l0).bind fun bt251 => ((spec_l15DrawCoder.f k bt251.1 bt251.2.1 bt251.2.2).bind fun bt255 => ((spec_l1Size.f l0 12).bind fun t260 => ((spec_l13Draw.f k bt251.1 bt255.2.2.2.1 bt255.2.2.2.2 t260).bind fun bt261 => ((spec_Spread.f k bt255.1 bt255.2.1 bt255.2.2.1 bt261.1).bind fun bt266 => ((spec_l1PickInt.f bt251.1 bt261.2.1 bt261.2.2 (([0, 1, 3, 100] : List Int))).bind fun bt273 => ((spec_Soften.f k bt266.1 bt273.1).bind fun bt276 => (spec_DrawLikeliest.l0 k bt255.1 bt255.2.1 bt255.2.2.1 bt266.2 bt276.1 0 bt251.1 bt273.2.1 bt273.2.2)))))))
theorem spec_DrawLikeliest.mono_l : ∀ k, (∀ y0 y1 y2 y3 y4 y5 y6 y7 y8, LeO (spec_DrawLikeliest.l0 k y0 y1 y2 y3 y4 y5 y6 y7 y8) (spec_DrawLikeliest.l0 (k + 1) y0 y1 y2 y3 y4 y5 y6 y7 y8)) ∧ (∀ y0 y1 y2 y3 y4 y5 y6, LeO (spec_DrawLikeliest.j1 k y0 y1 y2 y3 y4 y5 y6) (spec_DrawLikeliest.j1 (k + 1) y0 y1 y2 y3 y4 y5 y6))
 | 0 => ⟨fun _ _ _ _ _ _ _ _ _ r h => by simp [spec_DrawLikeliest.l0] at h, fun _ _ _ _ _ _ _ r h => by simp [spec_DrawLikeliest.j1] at h⟩
 | k + 1 => by
  obtain ⟨ih0, ih1⟩ := spec_DrawLikeliest.mono_l k
  refine ⟨?_, ?_⟩
  ·intro y0 y1 y2 y3 y4 y5 y6 y7 y8
   unfold spec_DrawLikeliest.l0
   repeat' first
   | (with_reducible exact ih0 _ _ _ _ _ _ _ _ _)
   | (with_reducible exact ih1 _ _ _ _ _ _ _)
   | (with_reducible exact spec_Soften.mono _ _ _)
   | (with_reducible exact spec_Spread.mono _ _ _ _ _)
   | (with_reducible exact spec_l13Draw.mono _ _ _ _ _)
   | (with_reducible exact spec_l15DrawCoder.mono _ _ _ _)
   | (with_reducible exact spec_l1New.mono _ _)
   | (with_reducible exact LeO.refl _)
   | (with_reducible exact LeO.none _)
   | (with_reducible refine LeO.ite ?_ ?_)
   | (with_reducible refine LeO.bind ?_ (fun _ => ?_))
   | exact ih0 _ _ _ _ _ _ _ _ _
   | exact ih1 _ _ _ _ _ _ _
   | exact spec_Soften.mono _ _ _
   | exact spec_Spread.mono _ _ _ _ _
   | exact spec_l13Draw.mono _ _ _ _ _
   | exact spec_l15DrawCoder.mono _ _ _ _
   | exact spec_l1New.mono _ _
   | exact LeO.none _
   | refine LeO.ite ?_ ?_
   | refine LeO.bind ?_ (fun _ => ?_)
  ·intro y0 y1 y2 y3 y4 y5 y6
   unfold spec_DrawLikeliest.j1
   repeat' first
   | (with_reducible exact ih0 _ _ _ _ _ _ _ _ _)
   | (with_reducible exact ih1 _ _ _ _ _ _ _)
   | (with_reducible exact spec_Soften.mono _ _ _)
   | (with_reducible exact spec_Spread.mono _ _ _ _ _)
   | (with_reducible exact spec_l13Draw.mono _ _ _ _ _)
   | (with_reducible exact spec_l15DrawCoder.mono _ _ _ _)
   | (with_reducible exact spec_l1New.mono _ _)
   | (with_reducible exact LeO.refl _)
   | (with_reducible exact LeO.none _)
   | (with_reducible refine LeO.ite ?_ ?_)
   | (with_reducible refine LeO.bind ?_ (fun _ => ?_))
   | exact ih0 _ _ _ _ _ _ _ _ _
   | exact ih1 _ _ _ _ _ _ _
   | exact spec_Soften.mono _ _ _
   | exact spec_Spread.mono _ _ _ _ _
   | exact spec_l13Draw.mono _ _ _ _ _
   | exact spec_l15DrawCoder.mono _ _ _ _
   | exact spec_l1New.mono _ _
   | exact LeO.none _
   | refine LeO.ite ?_ ?_
   | refine LeO.bind ?_ (fun _ => ?_)
theorem spec_DrawLikeliest.mono : ∀ a0 k, LeO (spec_DrawLikeliest.f k a0) (spec_DrawLikeliest.f (k + 1) a0) := by
 intro a0 k
 obtain ⟨ih0, ih1⟩ := spec_DrawLikeliest.mono_l k
 unfold spec_DrawLikeliest.f
 repeat' first
  | (with_reducible exact ih0 _ _ _ _ _ _ _ _ _)
  | (with_reducible exact ih1 _ _ _ _ _ _ _)
  | (with_reducible exact spec_Soften.mono _ _ _)
  | (with_reducible exact spec_Spread.mono _ _ _ _ _)
  | (with_reducible exact spec_l13Draw.mono _ _ _ _ _)
  | (with_reducible exact spec_l15DrawCoder.mono _ _ _ _)
  | (with_reducible exact spec_l1New.mono _ _)
  | (with_reducible exact LeO.refl _)
  | (with_reducible exact LeO.none _)
  | (with_reducible refine LeO.ite ?_ ?_)
  | (with_reducible refine LeO.bind ?_ (fun _ => ?_))
  | exact ih0 _ _ _ _ _ _ _ _ _
  | exact ih1 _ _ _ _ _ _ _
  | exact spec_Soften.mono _ _ _
  | exact spec_Spread.mono _ _ _ _ _
  | exact spec_l13Draw.mono _ _ _ _ _
  | exact spec_l15DrawCoder.mono _ _ _ _
  | exact spec_l1New.mono _ _
  | exact LeO.none _
  | refine LeO.ite ?_ ?_
  | refine LeO.bind ?_ (fun _ => ?_)
set_option maxHeartbeats 8000000 in
set_option maxRecDepth 100000 in
theorem spec_DrawLikeliest.calls (k : Nat) (A0 : Option Addr) (c0 : Nat) (l0 : List Int) (r1 : Int) (r2 : Int) (r3 : Int) (r4 : List Int) (w : World) (hr0 : Kd.C (Kd.int .u8) w A0 l0.length l0) (hc0 : l0.length ≤ c0) (h : spec_DrawLikeliest.f k l0 = some (r1, r2, r3, r4)) :
 Calls Try.prog 17 #[.slice A0 l0.length c0] w fun e w' => ∃ v3_ : Value, e = .returned (.tuple #[.int .i64 r1, .int .i64 r2, .int .i64 r3, v3_]) ∧ Kd.R (Kd.int .i64) 3 w' w.heap.size (fun _ => True) v3_ r4 ∧ Below w.heap.size w w' := by
 have HR0 := Aside0.mk hr0
 have HC0 := Aside0.mk hc0
 clear hr0 hc0
 have HB := Aside0.mk (Below.refl w.heap.size w)
 have H : ((spec_l1New.f k l0).bind fun bt251 => ((spec_l15DrawCoder.f k bt251.1 bt251.2.1 bt251.2.2).bind fun bt255 => ((spec_l1Size.f l0 12).bind fun t260 => ((spec_l13Draw.f k bt251.1 bt255.2.2.2.1 bt255.2.2.2.2 t260).bind fun bt261 => ((spec_Spread.f k bt255.1 bt255.2.1 bt255.2.2.1 bt261.1).bind fun bt266 => ((spec_l1PickInt.f bt251.1 bt261.2.1 bt261.2.2 (([0, 1, 3, 100] : List Int))).bind fun bt273 => ((spec_Soften.f k bt266.1 bt273.1).bind fun bt276 => (spec_DrawLikeliest.l0 k bt255.1 bt255.2.1 bt255.2.2.1 bt266.2 bt276.1 0 bt251.1 bt273.2.1 bt273.2.2)))))))) = some (r1, r2, r3, r4) := h
 clear h
 replace H := Option.bind_eq_some_iff.mp H
 obtain ⟨⟨t251, t252, t253⟩, A20, H⟩ := H
 replace H : ((spec_l15DrawCoder.f k t251 t252 t253).bind fun bt255 => ((spec_l1Size.f l0 12).bind fun t260 => ((spec_l13Draw.f k t251 bt255.2.2.2.1 bt255.2.2.2.2 t260).bind fun bt261 => ((spec_Spread.f k bt255.1 bt255.2.1 bt255.2.2.1 bt261.1).bind fun bt266 => ((spec_l1PickInt.f t251 bt261.2.1 bt261.2.2 (([0, 1, 3, 100] : List Int))).bind fun bt273 => ((spec_Soften.f k bt266.1 bt273.1).bind fun bt276 => (spec_DrawLikeliest.l0 k bt255.1 bt255.2.1 bt255.2.2.1 bt266.2 bt276.1 0 t251 bt273.2.1 bt273.2.2))))))) = some (r1, r2, r3, r4) := H
 have A2 := Aside0.mk A20
 clear A20
 replace H := Option.bind_eq_some_iff.mp H
 obtain ⟨⟨t255, t256, t257, t258, t259⟩, A30, H⟩ := H
 replace H : ((spec_l1Size.f l0 12).bind fun t260 => ((spec_l13Draw.f k t251 t258 t259 t260).bind fun bt261 => ((spec_Spread.f k t255 t256 t257 bt261.1).bind fun bt266 => ((spec_l1PickInt.f t251 bt261.2.1 bt261.2.2 (([0, 1, 3, 100] : List Int))).bind fun bt273 => ((spec_Soften.f k bt266.1 bt273.1).bind fun bt276 => (spec_DrawLikeliest.l0 k t255 t256 t257 bt266.2 bt276.1 0 t251 bt273.2.1 bt273.2.2)))))) = some (r1, r2, r3, r4) := H
 have A3 := Aside0.mk A30
 clear A30
 replace H := Option.bind_eq_some_iff.mp H
 obtain ⟨t260, A40, H⟩ := H
 replace H : ((spec_l13Draw.f k t251 t258 t259 t260).bind fun bt261 => ((spec_Spread.f k t255 t256 t257 bt261.1).bind fun bt266 => ((spec_l1PickInt.f t251 bt261.2.1 bt261.2.2 (([0, 1, 3, 100] : List Int))).bind fun bt273 => ((spec_Soften.f k bt266.1 bt273.1).bind fun bt276 => (spec_DrawLikeliest.l0 k t255 t256 t257 bt266.2 bt276.1 0 t251 bt273.2.1 bt273.2.2))))) = some (r1, r2, r3, r4) := H
 have A4 := Aside0.mk A40
 clear A40
 replace H := Option.bind_eq_some_iff.mp H
 obtain ⟨⟨t261, t264, t265⟩, A50, H⟩ := H
 replace H : ((spec_Spread.f k t255 t256 t257 t261).bind fun bt266 => ((spec_l1PickInt.f t251 t264 t265 (([0, 1, 3, 100] : List Int))).bind fun bt273 => ((spec_Soften.f k bt266.1 bt273.1).bind fun bt276 => (spec_DrawLikeliest.l0 k t255 t256 t257 bt266.2 bt276.1 0 t251 bt273.2.1 bt273.2.2)))) = some (r1, r2, r3, r4) := H
 have A5 := Aside0.mk A50
 clear A50
 replace H := Option.bind_eq_some_iff.mp H
 obtain ⟨⟨t266, t267⟩, A60, H⟩ := H
 replace H : ((spec_l1PickInt.f t251 t264 t265 (([0, 1, 3, 100] : List Int))).bind fun bt273 => ((spec_Soften.f k t266 bt273.1).bind fun bt276 => (spec_DrawLikeliest.l0 k t255 t256 t257 t267 bt276.1 0 t251 bt273.2.1 bt273.2.2))) = some (r1, r2, r3, r4) := H
 have A6 := Aside0.mk A60
 clear A60
 obtain ⟨y270, hy270⟩ : ∃ y_ : List Int, y_ = (([0, 1, 3, 100] : List Int)) := ⟨_, rfl⟩
 replace H : ((spec_l1PickInt.f t251 t264 t265 y270).bind fun bt273 => ((spec_Soften.f k t266 bt273.1).bind fun bt276 => (spec_DrawLikeliest.l0 k t255 t256 t257 t267 bt276.1 0 t251 bt273.2.1 bt273.2.2))) = some (r1, r2, r3, r4) := by first | (rw [hy270]; with_reducible exact H) | (have H2_ := (Option.bind_some _ _).symm.trans H; rw [hy270]; with_reducible exact H2_) | (have H2_ := (Option.bind_some _ _).symm.trans H; with_reducible exact H2_) | with_reducible exact H | (rw [hy270]; exact H) | exact H
 have Ny270 := Aside0.mk hy270
 clear hy270
 replace H := Option.bind_eq_some_iff.mp H
 obtain ⟨⟨t273, t274, t275⟩, A70, H⟩ := H
 replace H : ((spec_Soften.f k t266 t273).bind fun bt276 => (spec_DrawLikeliest.l0 k t255 t256 t257 t267 bt276.1 0 t251 t274 t275)) = some (r1, r2, r3, r4) := H
 have A7 := Aside0.mk A70
 clear A70
 replace H := Option.bind_eq_some_iff.mp H
 obtain ⟨⟨t276, t277⟩, A80, H⟩ := H
 replace H : (spec_DrawLikeliest.l0 k t255 t256 t257 t267 t276 0 t251 t274 t275) = some (r1, r2, r3, r4) := H
 have A8 := Aside0.mk A80
 clear A80
 have H' := Aside0.mk H
 clear H
 go_enter Try.func17, Try.ntmps17
 go_wp2_with (first | ((with_reducible refine gate_callee (f := 20) rfl ?_); refine goesL_ (some 17) rfl rfl Try.func20 (by kernel_rfl) rfl #[.slice A0 l0.length c0] rfl (by (try simp only [List.map_toArray, List.map_cons, List.map_nil]); first | done | rfl | (simp only [List.length_drop, List.length_take]; rfl)) ?_; (with_reducible refine (spec_l1New.calls k _ _ l0 t251 t252 t253 w _ ?side1 ?side2 ?side3 A2.out).mono ?_); (case side1 => repeat (first | (with_reducible first | exact HB.out | apply zBa | apply zBn | apply zBd) | exact HB.out)); (case side2 => exact HR0.out); (case side3 => exact HC0.out); rintro e w9 ⟨g254, rfl, hi, hb, hb2⟩; refine ⟨_, rfl, ?_⟩; have n0_ := Aside0.mk (hb); have n1_ := Aside0.mk (hi); clear HB; have HB := n0_; have HI254 := n1_; clear n0_ n1_; (try clear hb); (try clear hb2); (try clear hk); (try clear hi)) | ((with_reducible refine gate_callee (f := 32) rfl ?_); refine goesL_ (some 20) rfl rfl Try.func32 (by kernel_rfl) rfl #[.pointer (some ⟨g254, 0, none⟩)] rfl (by (try simp only [List.map_toArray, List.map_cons, List.map_nil]); first | done | rfl | (simp only [List.length_drop, List.length_take]; rfl)) ?_; (with_reducible refine (spec_l15DrawCoder.calls k g254 t251 t252 t253 t255 t256 t257 t258 t259 w _ ?side1 ?side2 A3.out).mono ?_); (case side1 => repeat (first | (with_reducible first | exact HI254.out | apply IsS61.alloc | apply IsS61.drewN | apply IsS61.drew | apply IsS61.set_1 | apply IsS61.set_2) | exact HI254.out)); (case side2 => repeat (first | (with_reducible first | exact HB.out | apply zBa | apply zBn | apply zBd | refine zBs ?_ (IsS61.ge HI254.out)) | exact HB.out)); rintro e w10 ⟨rfl, hi, hb, hk⟩; refine ⟨_, rfl, ?_⟩; have n0_ := Aside0.mk (hb); have n1_ := Aside0.mk (hi); clear HB; clear HI254; have HB := n0_; have HI254 := n1_; clear n0_ n1_; (try clear hb); (try clear hb2); (try clear hk); (try clear hi)) | ((with_reducible refine gate_callee (f := 33) rfl ?_); refine goesL_ (some 26) rfl rfl Try.func33 (by kernel_rfl) rfl #[.slice A0 l0.length c0, .int .i64 12] rfl (by (try simp only [List.map_toArray, List.map_cons, List.map_nil]); first | done | rfl | (simp only [List.length_drop, List.length_take]; rfl)) ?_; (with_reducible refine (spec_l1Size.calls _ _ l0 12 t260 _ ?side1 ?side2 A4.out).mono ?_); (case side1 => repeat (first | exact (Kd.C_below HR0.out HB.out) | (with_reducible first | refine zCa ?_ _ | refine zCn ?_ _ | refine zCd ?_))); (case side2 => exact HC0.out); rintro e w' ⟨rfl, ⟨nd, rfl⟩⟩; refine ⟨_, rfl, ?_⟩) | ((with_reducible refine gate_callee (f := 21) rfl ?_); refine goesL_ (some 27) rfl rfl Try.func21 (by kernel_rfl) rfl #[.pointer (some ⟨g254, 0, none⟩), .int .i64 t260] rfl (by (try simp only [List.map_toArray, List.map_cons, List.map_nil]); first | done | rfl | (simp only [List.length_drop, List.length_take]; rfl)) ?_; (with_reducible refine (spec_l13Draw.calls k g254 t251 t258 t259 t260 t261 t264 t265 w _ ?side1 ?side2 A5.out).mono ?_); (case side1 => repeat (first | (with_reducible first | exact HI254.out | apply IsS61.alloc | apply IsS61.drewN | apply IsS61.drew | apply IsS61.set_1 | apply IsS61.set_2) | exact HI254.out)); (case side2 => repeat (first | (with_reducible first | exact HB.out | apply zBa | apply zBn | apply zBd | refine zBs ?_ (IsS61.ge HI254.out)) | exact HB.out)); rintro e w11 ⟨v262, rfl, ho0, hi, hb, hk⟩; refine ⟨_, rfl, ?_⟩; have n0_ := Aside0.mk (Kd.R_lower ho0 (below_size (by repeat (first | (with_reducible first | exact HB.out | apply zBa | apply zBn | apply zBd | refine zBs ?_ (IsS61.ge HI254.out)) | exact HB.out)))); have n1_ := Aside0.mk (hb); have n2_ := Aside0.mk (hi); clear HB; clear HI254; have HO263 := n0_; have HB := n1_; have HI254 := n2_; clear n0_ n1_ n2_; (try clear hb); (try clear hb2); (try clear hk); (try clear hi); (try clear ho0); obtain ⟨Ao12, co12, eo12⟩ := Kd.R_slice HO263.out; subst eo12) | ((with_reducible refine gate_callee (f := 34) rfl ?_); refine goesL_ (some 33) rfl rfl Try.func34 (by kernel_rfl) rfl #[.int .i64 t255, .int .i64 t256, .int .i64 t257, .slice Ao12 t261.length co12] rfl (by (try simp only [List.map_toArray, List.map_cons, List.map_nil]); first | done | rfl | (simp only [List.length_drop, List.length_take]; rfl)) ?_; (with_reducible refine (spec_Spread.calls k t255 t256 t257 _ _ t261 t266 t267 _ ?side1 ?side2 A6.out).mono ?_); (case side1 => repeat (first | exact (Kd.R_reads' HO263.out).2.2 | (with_reducible first | refine zCa ?_ _ | refine zCn ?_ _ | refine zCd ?_))); (case side2 => exact (Kd.R_reads' HO263.out).2.1); rintro e w13 ⟨v268, rfl, ho0, hb⟩; refine ⟨_, rfl, ?_⟩; have n0_ := Aside0.mk (Kd.R_elder' (by (with_reducible repeat (first | apply zRa | apply zRn | apply zRd)); first | exact HO263.out | (subst_vars; exact HO263.out)) (Kd.R_base ho0) hb); have n1_ := Aside0.mk (Kd.R_lower (Kd.R_new' ho0 (Kd.R_lt (by (with_reducible repeat (first | apply zRa | apply zRn | apply zRd)); first | exact HO263.out | (subst_vars; exact HO263.out)))) (below_size (by repeat (first | (with_reducible first | exact HB.out | apply zBa | apply zBn | apply zBd | refine zBs ?_ (IsS61.ge HI254.out)) | exact HB.out)))); have n2_ := Aside0.mk (IsS61.below (by repeat (first | (with_reducible first | exact HI254.out | apply IsS61.alloc | apply IsS61.drewN | apply IsS61.drew | apply IsS61.set_1 | apply IsS61.set_2) | exact HI254.out)) hb); have n3_ := Aside0.mk (below_step (by repeat (first | (with_reducible first | exact HB.out | apply zBa | apply zBn | apply zBd | refine zBs ?_ (IsS61.ge HI254.out)) | exact HB.out)) hb); clear HO263; clear HI254; clear HB; have HO263 := n0_; have HO269 := n1_; have HI254 := n2_; have HB := n3_; clear n0_ n1_ n2_ n3_; (try clear hb); (try clear hb2); (try clear hk); (try clear hi); (try clear ho0)) | ((with_reducible refine gate_dst (N := 39) rfl ?_); refine Kd.R_lit (Kd.int .i64) _ 3 ?hg (N := 39) ?hd (xs := ([0, 1, 3, 100] : List Int)) (inner := [.int .i64 0, .int .i64 1, .int .i64 3, .int .i64 100]) (ok := fun _ => True) (okp := fun _ => True) ?hr ?hp (fun _ hk => hk) trivial (Below.refl _ _) (Nat.le_refl _) (by simp) ?_; (case hd => rfl); (case hg => rfl); (case hr => first | (go_simp; done) | (go_simp; rfl)); (case hp => exact (Reps.one (show Kd.M (Kd.int .i64) _ _ _ 0 [.int .i64 0] from rfl) (Reps.one (show Kd.M (Kd.int .i64) _ _ _ 1 [.int .i64 1] from rfl) (Reps.one (show Kd.M (Kd.int .i64) _ _ _ 3 [.int .i64 3] from rfl) (Reps.one (show Kd.M (Kd.int .i64) _ _ _ 100 [.int .i64 100] from rfl) (Reps.none _ _)))))); intro v271 w14 ho15 hb hg_ hnew_; clear hg_ hnew_; (first | rw [← Ny270.out] at ho15 | (simp only [Int.reduceToNat] at ho15; rw [← Ny270.out] at ho15)); have n0_ := Aside0.mk (Kd.R_elder' (by (with_reducible repeat (first | apply zRa | apply zRn | apply zRd)); first | exact HO263.out | (subst_vars; exact HO263.out)) (Kd.R_base ho15) hb); have n1_ := Aside0.mk (Kd.R_elder' (by (with_reducible repeat (first | apply zRa | apply zRn | apply zRd)); first | exact HO269.out | (subst_vars; exact HO269.out)) (Kd.R_base ho15) hb); have n2_ := Aside0.mk (Kd.R_lower (Kd.R_new' (Kd.R_new' ho15 (Kd.R_lt (by (with_reducible repeat (first | apply zRa | apply zRn | apply zRd)); first | exact HO263.out | (subst_vars; exact HO263.out)))) (Kd.R_lt (by (with_reducible repeat (first | apply zRa | apply zRn | apply zRd)); first | exact HO269.out | (subst_vars; exact HO269.out)))) (below_size (by repeat (first | (with_reducible first | exact HB.out | apply zBa | apply zBn | apply zBd | refine zBs ?_ (IsS61.ge HI254.out)) | exact HB.out)))); have n3_ := Aside0.mk (IsS61.below (by repeat (first | (with_reducible first | exact HI254.out | apply IsS61.alloc | apply IsS61.drewN | apply IsS61.drew | apply IsS61.set_1 | apply IsS61.set_2) | exact HI254.out)) hb); have n4_ := Aside0.mk (below_step (by repeat (first | (with_reducible first | exact HB.out | apply zBa | apply zBn | apply zBd | refine zBs ?_ (IsS61.ge HI254.out)) | exact HB.out)) hb); clear HO263; clear HO269; clear HI254; clear HB; have HO263 := n0_; have HO269 := n1_; have HO272 := n2_; have HI254 := n3_; have HB := n4_; clear n0_ n1_ n2_ n3_ n4_; clear hb ho15; obtain ⟨Ao16, co16, eo16⟩ := Kd.R_slice HO272.out; subst eo16) | ((with_reducible refine gate_callee (f := 36) rfl ?_); refine goesL_ (some 40) rfl rfl Try.func36 (by kernel_rfl) rfl #[.pointer (some ⟨g254, 0, none⟩), .slice Ao16 y270.length co16] rfl (by (try simp only [List.map_toArray, List.map_cons, List.map_nil]); first | done | rfl | (simp only [List.length_drop, List.length_take]; rfl)) ?_; (with_reducible refine (spec_l1PickInt.calls g254 t251 t264 t265 _ _ y270 t273 t274 t275 w _ ?side1 ?side2 ?side3 ?side4 ?side5 A7.out).mono ?_); (case side1 => repeat (first | (with_reducible first | exact HI254.out | apply IsS61.alloc | apply IsS61.drewN | apply IsS61.drew | apply IsS61.set_1 | apply IsS61.set_2) | exact HI254.out)); (case side2 => repeat (first | (with_reducible first | exact HB.out | apply zBa | apply zBn | apply zBd | refine zBs ?_ (IsS61.ge HI254.out)) | exact HB.out)); (case side3 => repeat (first | exact (Kd.R_reads' HO272.out).2.2 | (with_reducible first | refine zCa ?_ _ | refine zCn ?_ _ | refine zCd ?_))); (case side4 => exact (Kd.R_reads' HO272.out).2.1); (case side5 => exact far_slice (IsS61.own_ne HI254.out HO272.out (by decide))); rintro e w17 ⟨rfl, hi, hb, hk⟩; refine ⟨_, rfl, ?_⟩; have n0_ := Aside0.mk (Kd.R_mono (Kd.R_keep (IsS61.apart (show IsS61 w _ g254 t251 t264 t265 from by repeat (first | (with_reducible first | exact HI254.out | apply IsS61.alloc | apply IsS61.drewN | apply IsS61.drew | apply IsS61.set_1 | apply IsS61.set_2) | exact HI254.out)) (by (with_reducible repeat (first | apply zRa | apply zRn | apply zRd)); first | exact HO263.out | (subst_vars; exact HO263.out)) (by decide)) hk (fun _ h => h.2)) (fun _ h => h.1)); have n1_ := Aside0.mk (Kd.R_mono (Kd.R_keep (IsS61.apart (show IsS61 w _ g254 t251 t264 t265 from by repeat (first | (with_reducible first | exact HI254.out | apply IsS61.alloc | apply IsS61.drewN | apply IsS61.drew | apply IsS61.set_1 | apply IsS61.set_2) | exact HI254.out)) (by (with_reducible repeat (first | apply zRa | apply zRn | apply zRd)); first | exact HO269.out | (subst_vars; exact HO269.out)) (by decide)) hk (fun _ h => h.2)) (fun _ h => h.1)); have n2_ := Aside0.mk (Kd.R_mono (Kd.R_keep (IsS61.apart (show IsS61 w _ g254 t251 t264 t265 from by repeat (first | (with_reducible first | exact HI254.out | apply IsS61.alloc | apply IsS61.drewN | apply IsS61.drew | apply IsS61.set_1 | apply IsS61.set_2) | exact HI254.out)) (by (with_reducible repeat (first | apply zRa | apply zRn | apply zRd)); first | exact HO272.out | (subst_vars; exact HO272.out)) (by decide)) hk (fun _ h => h.2)) (fun _ h => h.1)); have n3_ := Aside0.mk (hb); have n4_ := Aside0.mk (hi); clear HO263; clear HO269; clear HO272; clear HB; clear HI254; have HO263 := n0_; have HO269 := n1_; have HO272 := n2_; have HB := n3_; have HI254 := n4_; clear n0_ n1_ n2_ n3_ n4_; (try clear hb); (try clear hb2); (try clear hk); (try clear hi); obtain ⟨Ao18, co18, eo18⟩ := Kd.R_slice HO269.out; subst eo18) | ((with_reducible refine gate_callee (f := 35) rfl ?_); refine goesL_ (some 41) rfl rfl Try.func35 (by kernel_rfl) rfl #[.slice Ao18 t266.length co18, .int .i64 t273] rfl (by (try simp only [List.map_toArray, List.map_cons, List.map_nil]); first | done | rfl | (simp only [List.length_drop, List.length_take]; rfl)) ?_; (with_reducible refine (spec_Soften.calls k _ _ t266 t273 t276 t277 _ ?side1 ?side2 A8.out).mono ?_); (case side1 => repeat (first | exact (Kd.R_reads' HO269.out).2.2 | (with_reducible first | refine zCa ?_ _ | refine zCn ?_ _ | refine zCd ?_))); (case side2 => exact (Kd.R_reads' HO269.out).2.1); rintro e w19 ⟨v278, rfl, ho0, hb⟩; refine ⟨_, rfl, ?_⟩; have n0_ := Aside0.mk (Kd.R_elder' (by (with_reducible repeat (first | apply zRa | apply zRn | apply zRd)); first | exact HO263.out | (subst_vars; exact HO263.out)) (Kd.R_base ho0) hb); have n1_ := Aside0.mk (Kd.R_elder' (by (with_reducible repeat (first | apply zRa | apply zRn | apply zRd)); first | exact HO269.out | (subst_vars; exact HO269.out)) (Kd.R_base ho0) hb); have n2_ := Aside0.mk (Kd.R_elder' (by (with_reducible repeat (first | apply zRa | apply zRn | apply zRd)); first | exact HO272.out | (subst_vars; exact HO272.out)) (Kd.R_base ho0) hb); have n3_ := Aside0.mk (Kd.R_lower (Kd.R_new' (Kd.R_new' (Kd.R_new' ho0 (Kd.R_lt (by (with_reducible repeat (first | apply zRa | apply zRn | apply zRd)); first | exact HO263.out | (subst_vars; exact HO263.out)))) (Kd.R_lt (by (with_reducible repeat (first | apply zRa | apply zRn | apply zRd)); first | exact HO269.out | (subst_vars; exact HO269.out)))) (Kd.R_lt (by (with_reducible repeat (first | apply zRa | apply zRn | apply zRd)); first | exact HO272.out | (subst_vars; exact HO272.out)))) (below_size (by repeat (first | (with_reducible first | exact HB.out | apply zBa | apply zBn | apply zBd | refine zBs ?_ (IsS61.ge HI254.out)) | exact HB.out)))); have n4_ := Aside0.mk (IsS61.below (by repeat (first | (with_reducible first | exact HI254.out | apply IsS61.alloc | apply IsS61.drewN | apply IsS61.drew | apply IsS61.set_1 | apply IsS61.set_2) | exact HI254.out)) hb); have n5_ := Aside0.mk (below_step (by repeat (first | (with_reducible first | exact HB.out | apply zBa | apply zBn | apply zBd | refine zBs ?_ (IsS61.ge HI254.out)) | exact HB.out)) hb); clear HO263; clear HO269; clear HO272; clear HI254; clear HB; have HO263 := n0_; have HO269 := n1_; have HO272 := n2_; have HO279 := n3_; have HI254 := n4_; have HB := n5_; clear n0_ n1_ n2_ n3_ n4_ n5_; (try clear hb); (try clear hb2); (try clear hk); (try clear hi); (try clear ho0)))
 (try simp only [Act.put, List.setIfInBounds_toArray, List.set_cons_zero, List.set_cons_succ])
 go_loopg [15] k (fun kq v15 w' => ∃ (x13_1 : List Int) (x15_1 : Int) (x255001_1 : Int) (x255002_1 : Int), v15 = .int .i64 x15_1 ∧ Aside0 (spec_DrawLikeliest.l0 kq t255 t256 t257 t267 x13_1 x15_1 t251 x255001_1 x255002_1 = some (r1, r2, r3, r4)) ∧ Aside0 (kq ≤ k) ∧ Aside0 (Kd.R (Kd.int .i64) 3 w' w.heap.size (fun _ => True) v278 x13_1) ∧ Aside0 (IsS61 w w' g254 t251 x255001_1 x255002_1) ∧ Aside0 (Below w.heap.size w w'))
 case atStart => exact ⟨(t276), (0), (t274), (t275), (by first | rfl | (simp; done) | (simp [*]; done)), H', ⟨Nat.le_refl _⟩, ⟨by (with_reducible repeat (first | apply zRa | apply zRn | apply zRd)); first | exact Kd.R_mono HO279.out (fun _ hk => trivial) | (subst_vars; exact Kd.R_mono HO279.out (fun _ hk => trivial))⟩, ⟨by repeat (first | (with_reducible first | exact HI254.out | apply IsS61.alloc | apply IsS61.drewN | apply IsS61.drew | apply IsS61.set_1 | apply IsS61.set_2) | exact HI254.out)⟩, ⟨by repeat (first | (with_reducible first | exact HB.out | apply zBa | apply zBn | apply zBd | refine zBs ?_ (IsS61.ge HI254.out)) | exact HB.out)⟩⟩
 case round =>
  clear H'
  try clear c1
  try clear c2
  try clear p2
  try clear c3
  try clear c17
  obtain ⟨x13_1, x15_1, x255001_1, x255002_1, rfl, HA, HK1, HO_13, HI254, HB⟩ := hrel
  cases gk with
  | zero => exact absurd HA.out (by simp [spec_DrawLikeliest.l0])
  | succ k1 =>
   have H := HA.out
   clear HA
   simp only [spec_DrawLikeliest.l0] at H
   by_cases c20 : x15_1 < (x13_1.length : Int)
   case pos =>
    rw [if_pos c20] at H
    have c20b0 : decide (x15_1 < (x13_1.length : Int)) = true := zE c20
    clear c20
    replace H := Option.bind_eq_some_iff.mp H
    obtain ⟨⟨t280, t281, t282⟩, A210, H⟩ := H
    replace H : (if t280 = true then ((spec_l1Below.f t251 t281 t282 9).bind fun bt283 => (if 0 ≤ x15_1 then (spec_DrawLikeliest.l0 k1 t255 t256 t257 t267 (x13_1.set (x15_1 : Int).toNat (wrap64 (bt283.1 - 4))) (wrap64 (x15_1 + 1)) t251 bt283.2.1 bt283.2.2) else (none))) else (spec_DrawLikeliest.l0 k1 t255 t256 t257 t267 x13_1 (wrap64 (x15_1 + 1)) t251 t281 t282)) = some (r1, r2, r3, r4) := H
    have A21 := Aside0.mk A210
    clear A210
    by_cases c22 : t280 = true
    case neg =>
     replace c22 := Bool.eq_false_iff.mpr c22
     subst c22
     have H1 : (spec_DrawLikeliest.l0 k1 t255 t256 t257 t267 x13_1 (wrap64 (x15_1 + 1)) t251 t281 t282) = some (r1, r2, r3, r4) := by rw [if_neg (show ¬ (false = true) by decide)] at H; exact H
     clear H
     have H := H1
     clear H1
     have H' := Aside0.mk H
     clear H
     obtain ⟨Ao31, co31, eo31⟩ := Kd.R_slice HO_13.out
     subst eo31
     go_wp2_with (first | ((with_reducible refine gate_callee (f := 37) rfl ?_); refine goesL_ (some 51) rfl rfl Try.func37 (by kernel_rfl) rfl #[.pointer (some ⟨g254, 0, none⟩), .int .i64 5] rfl (by (try simp only [List.map_toArray, List.map_cons, List.map_nil]); first | done | rfl | (simp only [List.length_drop, List.length_take]; rfl)) ?_; (with_reducible refine (spec_l1Once.calls g254 t251 x255001_1 x255002_1 5 false t281 t282 w _ ?side1 ?side2 A21.out).mono ?_); (case side1 => repeat (first | (with_reducible first | exact HI254.out | apply IsS61.alloc | apply IsS61.drewN | apply IsS61.drew | apply IsS61.set_1 | apply IsS61.set_2) | exact HI254.out)); (case side2 => repeat (first | (with_reducible first | exact HB.out | apply zBa | apply zBn | apply zBd | refine zBs ?_ (IsS61.ge HI254.out)) | exact HB.out)); rintro e w32 ⟨rfl, hi, hb, hk⟩; refine ⟨_, rfl, ?_⟩; have n0_ := Aside0.mk (Kd.R_mono (Kd.R_keep (IsS61.apart (show IsS61 w _ g254 t251 x255001_1 x255002_1 from by repeat (first | (with_reducible first | exact HI254.out | apply IsS61.alloc | apply IsS61.drewN | apply IsS61.drew | apply IsS61.set_1 | apply IsS61.set_2) | exact HI254.out)) (by (with_reducible repeat (first | apply zRa | apply zRn | apply zRd)); first | exact HO_13.out | (subst_vars; exact HO_13.out)) (by decide)) hk (fun _ h => h.2)) (fun _ h => h.1)); have n1_ := Aside0.mk (hb); have n2_ := Aside0.mk (hi); clear HO_13; clear HB; clear HI254; have HO_13 := n0_; have HB := n1_; have HI254 := n2_; clear n0_ n1_ n2_; (try clear hb); (try clear hb2); (try clear hk); (try clear hi)))
     go_roundg k1
     case measure => have := HK1.out; omega
     case rel => exact ⟨(x13_1), (wrap64 (x15_1 + 1)), (t281), (t282), (by first | rfl | (simp; done) | (simp [*]; done)), H', ⟨by have := HK1.out; omega⟩, ⟨by (with_reducible repeat (first | apply zRa | apply zRn | apply zRd)); first | exact HO_13.out | (subst_vars; exact HO_13.out)⟩, ⟨by repeat (first | (with_reducible first | exact HI254.out | apply IsS61.alloc | apply IsS61.drewN | apply IsS61.drew | apply IsS61.set_1 | apply IsS61.set_2) | exact HI254.out)⟩, ⟨by repeat (first | (with_reducible first | exact HB.out | apply zBa | apply zBn | apply zBd | refine zBs ?_ (IsS61.ge HI254.out)) | exact HB.out)⟩⟩
    subst c22
    have H1 : ((spec_l1Below.f t251 t281 t282 9).bind fun bt283 => (if 0 ≤ x15_1 then (spec_DrawLikeliest.l0 k1 t255 t256 t257 t267 (x13_1.set (x15_1 : Int).toNat (wrap64 (bt283.1 - 4))) (wrap64 (x15_1 + 1)) t251 bt283.2.1 bt283.2.2) else (none))) = some (r1, r2, r3, r4) := by rw [if_pos rfl] at H; exact H
    clear H
    have H := H1
    clear H1
    replace H := Option.bind_eq_some_iff.mp H
    obtain ⟨⟨t283, t284, t285⟩, A230, H⟩ := H
    replace H : (if 0 ≤ x15_1 then (spec_DrawLikeliest.l0 k1 t255 t256 t257 t267 (x13_1.set (x15_1 : Int).toNat (wrap64 (t283 - 4))) (wrap64 (x15_1 + 1)) t251 t284 t285) else (none)) = some (r1, r2, r3, r4) := H
    have A23 := Aside0.mk A230
    clear A230
    by_cases c24 : 0 ≤ x15_1
    case neg =>
     rw [if_neg c24] at H
     exact absurd H (by simp)
    rw [if_pos c24] at H
    have c24b0 : decide (0 ≤ x15_1) = true := zE c24
    clear c24
    obtain ⟨y286, hy286⟩ : ∃ y_ : List Int, y_ = (x13_1.set (x15_1 : Int).toNat (wrap64 (t283 - 4))) := ⟨_, rfl⟩
    replace H : (spec_DrawLikeliest.l0 k1 t255 t256 t257 t267 y286 (wrap64 (x15_1 + 1)) t251 t284 t285) = some (r1, r2, r3, r4) := by first | (rw [hy286]; with_reducible exact H) | (have H2_ := (Option.bind_some _ _).symm.trans H; rw [hy286]; with_reducible exact H2_) | (have H2_ := (Option.bind_some _ _).symm.trans H; with_reducible exact H2_) | with_reducible exact H | (rw [hy286]; exact H) | exact H
    have Ny286 := Aside0.mk hy286
    clear hy286
    have H' := Aside0.mk H
    clear H
    obtain ⟨Ao26, co26, eo26⟩ := Kd.R_slice HO_13.out
    subst eo26
    go_wp2_with (first | ((with_reducible refine gate_callee (f := 37) rfl ?_); refine goesL_ (some 51) rfl rfl Try.func37 (by kernel_rfl) rfl #[.pointer (some ⟨g254, 0, none⟩), .int .i64 5] rfl (by (try simp only [List.map_toArray, List.map_cons, List.map_nil]); first | done | rfl | (simp only [List.length_drop, List.length_take]; rfl)) ?_; (with_reducible refine (spec_l1Once.calls g254 t251 x255001_1 x255002_1 5 true t281 t282 w _ ?side1 ?side2 A21.out).mono ?_); (case side1 => repeat (first | (with_reducible first | exact HI254.out | apply IsS61.alloc | apply IsS61.drewN | apply IsS61.drew | apply IsS61.set_1 | apply IsS61.set_2) | exact HI254.out)); (case side2 => repeat (first | (with_reducible first | exact HB.out | apply zBa | apply zBn | apply zBd | refine zBs ?_ (IsS61.ge HI254.out)) | exact HB.out)); rintro e w27 ⟨rfl, hi, hb, hk⟩; refine ⟨_, rfl, ?_⟩; have n0_ := Aside0.mk (Kd.R_mono (Kd.R_keep (IsS61.apart (show IsS61 w _ g254 t251 x255001_1 x255002_1 from by repeat (first | (with_reducible first | exact HI254.out | apply IsS61.alloc | apply IsS61.drewN | apply IsS61.drew | apply IsS61.set_1 | apply IsS61.set_2) | exact HI254.out)) (by (with_reducible repeat (first | apply zRa | apply zRn | apply zRd)); first | exact HO_13.out | (subst_vars; exact HO_13.out)) (by decide)) hk (fun _ h => h.2)) (fun _ h => h.1)); have n1_ := Aside0.mk (hb); have n2_ := Aside0.mk (hi); clear HO_13; clear HB; clear HI254; have HO_13 := n0_; have HB := n1_; have HI254 := n2_; clear n0_ n1_ n2_; (try clear hb); (try clear hb2); (try clear hk); (try clear hi)) | ((with_reducible refine gate_callee (f := 22) rfl ?_); refine goesL_ (some 55) rfl rfl Try.func22 (by kernel_rfl) rfl #[.pointer (some ⟨g254, 0, none⟩), .int .i64 9] rfl (by (try simp only [List.map_toArray, List.map_cons, List.map_nil]); first | done | rfl | (simp only [List.length_drop, List.length_take]; rfl)) ?_; (with_reducible refine (spec_l1Below.calls g254 t251 t281 t282 9 t283 t284 t285 w _ ?side1 ?side2 A23.out).mono ?_); (case side1 => repeat (first | (with_reducible first | exact HI254.out | apply IsS61.alloc | apply IsS61.drewN | apply IsS61.drew | apply IsS61.set_1 | apply IsS61.set_2) | exact HI254.out)); (case side2 => repeat (first | (with_reducible first | exact HB.out | apply zBa | apply zBn | apply zBd | refine zBs ?_ (IsS61.ge HI254.out)) | exact HB.out)); rintro e w28 ⟨rfl, hi, hb, hk⟩; refine ⟨_, rfl, ?_⟩; have n0_ := Aside0.mk (Kd.R_mono (Kd.R_keep (IsS61.apart (show IsS61 w _ g254 t251 t281 t282 from by repeat (first | (with_reducible first | exact HI254.out | apply IsS61.alloc | apply IsS61.drewN | apply IsS61.drew | apply IsS61.set_1 | apply IsS61.set_2) | exact HI254.out)) (by (with_reducible repeat (first | apply zRa | apply zRn | apply zRd)); first | exact HO_13.out | (subst_vars; exact HO_13.out)) (by decide)) hk (fun _ h => h.2)) (fun _ h => h.1)); have n1_ := Aside0.mk (hb); have n2_ := Aside0.mk (hi); clear HO_13; clear HB; clear HI254; have HO_13 := n0_; have HB := n1_; have HI254 := n2_; clear n0_ n1_ n2_; (try clear hb); (try clear hb2); (try clear hk); (try clear hi); have p25 : 0 ≤ (x15_1 : Int) := zT (by first | (with_reducible assumption) | assumption); have q25 : (x15_1 : Int) < ((x13_1.length : Int) : Int) := zT (by first | (with_reducible assumption) | assumption); obtain ⟨go25, co25, eo25, gb25, gl25, cl25, HG25⟩ := Kd.R_form HO_13.out (by omega); (first | cases eo25 | (injection eo25 with ea_ en_ ec_; (first | subst ea_ | (injection ea_ with ea_; subst ea_)); subst ec_; clear en_)); have GB25 := Aside0.mk gb25; have GG25 := Aside0.mk HG25; clear gb25 gl25 HG25; obtain ⟨hx25_0, hf25_0⟩ := Kd.R_celln 0 HO_13.out (x15_1 : Int) p25 q25; replace p25 := eq_true p25; replace q25 := eq_true q25; obtain ⟨hy29_, hz29_⟩ := Kd.R_celln 0 HO_13.out (x15_1 : Int) (zT (by first | (with_reducible assumption) | assumption)) (zT (by first | (with_reducible assumption) | assumption)); have HP29 := Kd.R_putg HO_13.out (x15_1 : Int) (wrap64 (t283 - 4))) | ((with_reducible refine gate_store (t := 3) (p := 57) rfl ?_); refine store_event (t := 3) (p := 57) (v := ?vo_w30) (w1 := (w28.setCell ⟨go25, (x15_1 : Int).toNat, none⟩ (.int .i64 (wrap64 (t283 - 4))))) ?hg ?ho ?hn ?hr ?_; (case ho => rfl); (case hg => rfl); (case hn => rfl); (case hr => first | (go_simp; done) | (go_simp; rfl)); intro w30 hw; have hg : w28.grownBy w30 (some go25) := (by rw [hw]; exact HP29.2); have hp_ : Kd.R (Kd.int .i64) 3 w30 w.heap.size (fun _ => True) (.slice (some ⟨go25, 0, none⟩) x13_1.length co26) y286 := (by rw [hw, Ny286.out]; exact HP29.1); clear HP29; have n0_ := Aside0.mk (hp_); have n1_ := Aside0.mk (IsS61.grown (by repeat (first | (with_reducible first | exact HI254.out | apply IsS61.alloc | apply IsS61.drewN | apply IsS61.drew | apply IsS61.set_1 | apply IsS61.set_2) | exact HI254.out)) hg (IsS61.own_ne HI254.out HO_13.out (by decide))); have n2_ := Aside0.mk ((by rw [hw]; exact zBs (HB.out) GB25.out : Below w.heap.size w w30)); clear HO_13; clear HI254; clear HB; have HO_13 := n0_; have HI254 := n1_; have HB := n2_; clear n0_ n1_ n2_; clear hg hw hp_))
    go_roundg k1
    case measure => have := HK1.out; omega
    case rel => exact ⟨(y286), (wrap64 (x15_1 + 1)), (t284), (t285), (by first | rfl | (simp; done) | (simp [*]; done)), H', ⟨by have := HK1.out; omega⟩, ⟨by (with_reducible repeat (first | apply zRa | apply zRn | apply zRd)); first | exact HO_13.out | (subst_vars; exact HO_13.out)⟩, ⟨by repeat (first | (with_reducible first | exact HI254.out | apply IsS61.alloc | apply IsS61.drewN | apply IsS61.drew | apply IsS61.set_1 | apply IsS61.set_2) | exact HI254.out)⟩, ⟨by repeat (first | (with_reducible first | exact HB.out | apply zBa | apply zBn | apply zBd | refine zBs ?_ (IsS61.ge HI254.out)) | exact HB.out)⟩⟩
   rw [if_neg c20] at H
   have c20b0 : decide (x15_1 < (x13_1.length : Int)) = false := decide_eq_false c20
   clear c20
   have HC33 := Aside0.mk H
   clear H
   obtain ⟨Ao34, co34, eo34⟩ := Kd.R_slice HO_13.out
   subst eo34
   go_upto_if 59 with (fail)
   go_cut [13] (fun v13 wc => ∃ (kq : Nat) (x13_32 : List Int), Aside0 (spec_DrawLikeliest.j1 kq t255 t256 t257 x13_32 t251 x255001_1 x255002_1 = some (r1, r2, r3, r4)) ∧ Aside0 (kq ≤ k1) ∧ Aside0 (Kd.R (Kd.int .i64) 3 wc w.heap.size (fun _ => True) v13 x13_32) ∧ Aside0 (IsS61 w wc g254 t251 x255001_1 x255002_1) ∧ Aside0 (Below w.heap.size w wc))
   case first =>
    have H := HC33.out
    clear HC33
    by_cases c35 : t267 = true
    case pos =>
     subst c35
     have H1 : (spec_DrawLikeliest.j1 k1 t255 t256 t257 x13_1 t251 x255001_1 x255002_1) = some (r1, r2, r3, r4) := by rw [if_pos rfl] at H; exact H
     clear H
     have H := H1
     clear H1
     have H' := Aside0.mk H
     clear H
     go_wp2
     go_meet
     case rel => exact ⟨_, (x13_1), H', ⟨by have := HK1.out; first | omega | exact Nat.le_refl _⟩, ⟨by (with_reducible repeat (first | apply zRa | apply zRn | apply zRd)); first | exact HO_13.out | (subst_vars; exact HO_13.out)⟩, ⟨by repeat (first | (with_reducible first | exact HI254.out | apply IsS61.alloc | apply IsS61.drewN | apply IsS61.drew | apply IsS61.set_1 | apply IsS61.set_2) | exact HI254.out)⟩, ⟨by repeat (first | (with_reducible first | exact HB.out | apply zBa | apply zBn | apply zBd | refine zBs ?_ (IsS61.ge HI254.out)) | exact HB.out)⟩⟩
    replace c35 := Bool.eq_false_iff.mpr c35
    subst c35
    have H1 : (if 8 ≤ 35184372088832 then (spec_DrawLikeliest.j1 k1 t255 t256 t257 (List.replicate 8 0) t251 x255001_1 x255002_1) else (none)) = some (r1, r2, r3, r4) := by rw [if_neg (show ¬ (false = true) by decide)] at H; exact H
    clear H
    have H := H1
    clear H1
    by_cases c36 : 8 ≤ 35184372088832
    case neg =>
     rw [if_neg c36] at H
     exact absurd H (by simp)
    rw [if_pos c36] at H
    have c36b0 := eq_true c36
    have c36b1 : decide (8 ≤ 35184372088832) = true := zE c36
    clear c36
    obtain ⟨y287, hy287⟩ : ∃ y_ : List Int, y_ = (List.replicate 8 0) := ⟨_, rfl⟩
    replace H : (spec_DrawLikeliest.j1 k1 t255 t256 t257 y287 t251 x255001_1 x255002_1) = some (r1, r2, r3, r4) := by first | (rw [hy287]; with_reducible exact H) | (have H2_ := (Option.bind_some _ _).symm.trans H; rw [hy287]; with_reducible exact H2_) | (have H2_ := (Option.bind_some _ _).symm.trans H; with_reducible exact H2_) | with_reducible exact H | (rw [hy287]; exact H) | exact H
    have Ny287 := Aside0.mk hy287
    clear hy287
    have H' := Aside0.mk H
    clear H
    go_wp2_with (first | ((with_reducible refine gate_dst (N := 60) rfl ?_); refine Kd.R_make (Kd.int .i64) _ 3 rfl (N := 60) rfl 24 _ _ rfl 8 rfl rfl Try.underlying24 (.int .i64 0) 8 info3 rfl (by decide) (by omega) 0 (ok := fun _ => True) (okp := fun _ => True) rfl (fun _ hk => hk) trivial (by omega) (by omega) (Below.refl _ _) (Nat.le_refl _) ?_; intro v288 w37 ho38 hb hg_ hnew_; clear hg_ hnew_; (first | rw [← Ny287.out] at ho38 | (simp only [Int.reduceToNat] at ho38; rw [← Ny287.out] at ho38)); have n0_ := Aside0.mk (Kd.R_elder' (by (with_reducible repeat (first | apply zRa | apply zRn | apply zRd)); first | exact HO_13.out | (subst_vars; exact HO_13.out)) (Kd.R_base ho38) hb); have n1_ := Aside0.mk (Kd.R_lower (Kd.R_new' ho38 (Kd.R_lt (by (with_reducible repeat (first | apply zRa | apply zRn | apply zRd)); first | exact HO_13.out | (subst_vars; exact HO_13.out)))) (below_size (by repeat (first | (with_reducible first | exact HB.out | apply zBa | apply zBn | apply zBd | refine zBs ?_ (IsS61.ge HI254.out)) | exact HB.out)))); have n2_ := Aside0.mk (IsS61.below (by repeat (first | (with_reducible first | exact HI254.out | apply IsS61.alloc | apply IsS61.drewN | apply IsS61.drew | apply IsS61.set_1 | apply IsS61.set_2) | exact HI254.out)) hb); have n3_ := Aside0.mk (below_step (by repeat (first | (with_reducible first | exact HB.out | apply zBa | apply zBn | apply zBd | refine zBs ?_ (IsS61.ge HI254.out)) | exact HB.out)) hb); clear HO_13; clear HI254; clear HB; have HO_13 := n0_; have HO289 := n1_; have HI254 := n2_; have HB := n3_; clear n0_ n1_ n2_ n3_; clear hb ho38))
    go_meet
    case rel => exact ⟨_, (y287), H', ⟨by have := HK1.out; first | omega | exact Nat.le_refl _⟩, ⟨by (with_reducible repeat (first | apply zRa | apply zRn | apply zRd)); first | exact Kd.R_mono HO289.out (fun _ hk => trivial) | (subst_vars; exact Kd.R_mono HO289.out (fun _ hk => trivial))⟩, ⟨by repeat (first | (with_reducible first | exact HI254.out | apply IsS61.alloc | apply IsS61.drewN | apply IsS61.drew | apply IsS61.set_1 | apply IsS61.set_2) | exact HI254.out)⟩, ⟨by repeat (first | (with_reducible first | exact HB.out | apply zBa | apply zBn | apply zBd | refine zBs ?_ (IsS61.ge HI254.out)) | exact HB.out)⟩⟩
   case rest =>
    clear HC33
    try clear c1
    try clear c2
    try clear p2
    try clear q2
    try clear hx2
    try clear hf2
    try clear c3
    try clear p6
    try clear c17
    try clear c20
    try clear c20b0
    try clear c21
    try clear c22
    try clear c24
    try clear c24b0
    try clear p25
    try clear q25
    try clear hx25
    try clear hf25
    try clear c32
    try clear c33
    try clear c34
    try clear c35
    try clear c36
    try clear c36b0
    try clear c36b1
    try clear c37
    try clear hx25_0
    try clear p2
    try clear p25
    try clear q25
    obtain ⟨kq, x13_32, HA, HJ32, HO_13, HI254, HB⟩ := hcut
    cases kq with
    | zero => exact absurd HA.out (by simp [spec_DrawLikeliest.j1])
    | succ kj32 =>
     have H := HA.out
     clear HA
     simp only [spec_DrawLikeliest.j1] at H
     replace H := Option.bind_eq_some_iff.mp H
     obtain ⟨⟨t290, t291, t292⟩, A390, H⟩ := H
     replace H : (if t290 = 0 then (if x13_32.length < 17592186044416 then (some (t255, t256, t257, (x13_32 ++ [1]))) else (none)) else (if t290 = 1 then ((spec_l1PickInt.f t251 t291 t292 (([100, 101, (-101)] : List Int))).bind fun bt299 => ((some (([bt299.1, 0] : List Int) : List Int)).bind fun y302 => (if x13_32.length + y302.length < 17592186044416 then (some (t255, t256, t257, (x13_32 ++ y302))) else (none)))) else (some (t255, t256, t257, x13_32)))) = some (r1, r2, r3, r4) := H
     have A39 := Aside0.mk A390
     clear A390
     by_cases c40 : t290 = 0
     case pos =>
      rw [if_pos c40] at H
      have c40b0 : (t290 == 0) = true := beq_iff_eq.mpr c40
      have c40b1 : (t290 != 0) = false := bne_eq_false_iff_eq.mpr c40
      clear c40
      by_cases c41 : x13_32.length < 17592186044416
      case neg =>
       rw [if_neg c41] at H
       exact absurd H (by simp)
      rw [if_pos c41] at H
      have LMc41 := Aside0.mk c41
      clear c41
      obtain ⟨y293, hy293⟩ : ∃ y_ : List Int, y_ = (x13_32 ++ [1]) := ⟨_, rfl⟩
      replace H : (some (t255, t256, t257, y293)) = some (r1, r2, r3, r4) := by first | (rw [hy293]; with_reducible exact H) | (have H2_ := (Option.bind_some _ _).symm.trans H; rw [hy293]; with_reducible exact H2_) | (have H2_ := (Option.bind_some _ _).symm.trans H; with_reducible exact H2_) | with_reducible exact H | (rw [hy293]; exact H) | exact H
      have Ny293 := Aside0.mk hy293
      clear hy293
      simp only [Option.some.injEq, Prod.mk.injEq] at H
      obtain ⟨rfl, rfl, rfl, rfl⟩ := H
      go_wp2_with (first | ((with_reducible refine gate_callee (f := 22) rfl ?_); refine goesL_ (some 62) rfl rfl Try.func22 (by kernel_rfl) rfl #[.pointer (some ⟨g254, 0, none⟩), .int .i64 30] rfl (by (try simp only [List.map_toArray, List.map_cons, List.map_nil]); first | done | rfl | (simp only [List.length_drop, List.length_take]; rfl)) ?_; (with_reducible refine (spec_l1Below.calls g254 t251 x255001_1 x255002_1 30 t290 t291 t292 w _ ?side1 ?side2 A39.out).mono ?_); (case side1 => repeat (first | (with_reducible first | exact HI254.out | apply IsS61.alloc | apply IsS61.drewN | apply IsS61.drew | apply IsS61.set_1 | apply IsS61.set_2) | exact HI254.out)); (case side2 => repeat (first | (with_reducible first | exact HB.out | apply zBa | apply zBn | apply zBd | refine zBs ?_ (IsS61.ge HI254.out)) | exact HB.out)); rintro e w42 ⟨rfl, hi, hb, hk⟩; refine ⟨_, rfl, ?_⟩; have n0_ := Aside0.mk (Kd.R_mono (Kd.R_keep (IsS61.apart (show IsS61 w _ g254 t251 x255001_1 x255002_1 from by repeat (first | (with_reducible first | exact HI254.out | apply IsS61.alloc | apply IsS61.drewN | apply IsS61.drew | apply IsS61.set_1 | apply IsS61.set_2) | exact HI254.out)) (by (with_reducible repeat (first | apply zRa | apply zRn | apply zRd)); first | exact HO_13.out | (subst_vars; exact HO_13.out)) (by decide)) hk (fun _ h => h.2)) (fun _ h => h.1)); have n1_ := Aside0.mk (hb); have n2_ := Aside0.mk (hi); clear HO_13; clear HB; clear HI254; have HO_13 := n0_; have HB := n1_; have HI254 := n2_; clear n0_ n1_ n2_; (try clear hb); (try clear hb2); (try clear hk); (try clear hi)) | ((with_reducible refine gate_builtin (b := .append) (xs := #[.tmp 65, .tmp 66]) rfl ?_); at_builtin; refine Kd.R_append (Kd.int .i64) (w0 := w) w.heap.size rfl (.tmp 65) (.tmp 66) 24 3 (.int .i64 0) 8 rfl Try.underlying24 info3 rfl (by decide) (by omega) u13 x13_32 1 [.int .i64 1] (fun _ => True) (fun _ => False) rfl rfl ?aP (fun _ hk => hk.elim) ?aF ?aO ?aB ?aS ?aL ?_; (case aP => exact rfl); (case aB => exact (by repeat (first | (with_reducible first | exact HB.out | apply zBa | apply zBn | apply zBd | refine zBs ?_ (IsS61.ge HI254.out)) | exact HB.out))); (case aF => exact (fun _ _ => trivial)); (case aO => exact (by (with_reducible repeat (first | apply zRa | apply zRn | apply zRd)); first | exact HO_13.out | (subst_vars; exact HO_13.out))); (case aS => exact (below_size (by repeat (first | (with_reducible first | exact HB.out | apply zBa | apply zBn | apply zBd | refine zBs ?_ (IsS61.ge HI254.out)) | exact HB.out)))); (case aL => have := LMc41.out; omega); intro v294 w43 ho hb hg hat; (first | rw [← Ny293.out] at ho | (simp only [Int.reduceToNat] at ho; rw [← Ny293.out] at ho)); have n0_ := Aside0.mk (IsS61.grown (by repeat (first | (with_reducible first | exact HI254.out | apply IsS61.alloc | apply IsS61.drewN | apply IsS61.drew | apply IsS61.set_1 | apply IsS61.set_2) | exact HI254.out)) hg (IsS61.own_ne HI254.out HO_13.out (by decide))); have n1_ := Aside0.mk (hb); have n2_ := Aside0.mk (ho); clear HI254; clear HB; clear HO_13; have HI254 := n0_; have HB := n1_; have HO295 := n2_; clear n0_ n1_ n2_; clear ho hb hg hat))
      refine bodyPost_ret (results_list (rs := [.tmp 2, .tmp 3, .tmp 4, .tmp 5]) rfl (by simp) (.tmp (.tmp (.tmp (.tmp .nil))))) rfl ?_
      exact ⟨_, by first | rfl | (simp [errW_none, errW_some] <;> rfl) | (simp [*, errW_none, errW_some] <;> rfl), by (with_reducible repeat (first | apply zRa | apply zRn | apply zRd)); first | exact HO295.out | (subst_vars; exact HO295.out), by repeat (first | (with_reducible first | exact HB.out | apply zBa | apply zBn | apply zBd | refine zBs ?_ (IsS61.ge HI254.out)) | exact HB.out)⟩
     rw [if_neg c40] at H
     have c40b0 : (t290 == 0) = false := beq_eq_false_iff_ne.mpr c40
     have c40b1 : (t290 != 0) = true := bne_iff_ne.mpr c40
     by_cases c44 : t290 = 1
     case neg =>
      rw [if_neg c44] at H
      have c44b0 : (t290 == 1) = false := beq_eq_false_iff_ne.mpr c44
      have c44b1 : (t290 != 1) = true := bne_iff_ne.mpr c44
      simp only [Option.some.injEq, Prod.mk.injEq] at H
      obtain ⟨rfl, rfl, rfl, rfl⟩ := H
      go_wp2_with (first | ((with_reducible refine gate_callee (f := 22) rfl ?_); refine goesL_ (some 62) rfl rfl Try.func22 (by kernel_rfl) rfl #[.pointer (some ⟨g254, 0, none⟩), .int .i64 30] rfl (by (try simp only [List.map_toArray, List.map_cons, List.map_nil]); first | done | rfl | (simp only [List.length_drop, List.length_take]; rfl)) ?_; (with_reducible refine (spec_l1Below.calls g254 t251 x255001_1 x255002_1 30 t290 t291 t292 w _ ?side1 ?side2 A39.out).mono ?_); (case side1 => repeat (first | (with_reducible first | exact HI254.out | apply IsS61.alloc | apply IsS61.drewN | apply IsS61.drew | apply IsS61.set_1 | apply IsS61.set_2) | exact HI254.out)); (case side2 => repeat (first | (with_reducible first | exact HB.out | apply zBa | apply zBn | apply zBd | refine zBs ?_ (IsS61.ge HI254.out)) | exact HB.out)); rintro e w56 ⟨rfl, hi, hb, hk⟩; refine ⟨_, rfl, ?_⟩; have n0_ := Aside0.mk (Kd.R_mono (Kd.R_keep (IsS61.apart (show IsS61 w _ g254 t251 x255001_1 x255002_1 from by repeat (first | (with_reducible first | exact HI254.out | apply IsS61.alloc | apply IsS61.drewN | apply IsS61.drew | apply IsS61.set_1 | apply IsS61.set_2) | exact HI254.out)) (by (with_reducible repeat (first | apply zRa | apply zRn | apply zRd)); first | exact HO_13.out | (subst_vars; exact HO_13.out)) (by decide)) hk (fun _ h => h.2)) (fun _ h => h.1)); have n1_ := Aside0.mk (hb); have n2_ := Aside0.mk (hi); clear HO_13; clear HB; clear HI254; have HO_13 := n0_; have HB := n1_; have HI254 := n2_; clear n0_ n1_ n2_; (try clear hb); (try clear hb2); (try clear hk); (try clear hi)))
      refine bodyPost_ret (results_list (rs := [.tmp 2, .tmp 3, .tmp 4, .tmp 5]) rfl (by simp) (.tmp (.tmp (.tmp (.tmp .nil))))) rfl ?_
      exact ⟨_, by first | rfl | (simp [errW_none, errW_some] <;> rfl) | (simp [*, errW_none, errW_some] <;> rfl), by (with_reducible repeat (first | apply zRa | apply zRn | apply zRd)); first | exact HO_13.out | (subst_vars; exact HO_13.out), by repeat (first | (with_reducible first | exact HB.out | apply zBa | apply zBn | apply zBd | refine zBs ?_ (IsS61.ge HI254.out)) | exact HB.out)⟩
     rw [if_pos c44] at H
     have c44b0 : (t290 == 1) = true := beq_iff_eq.mpr c44
     have c44b1 : (t290 != 1) = false := bne_eq_false_iff_eq.mpr c44
     clear c44
     obtain ⟨y296, hy296⟩ : ∃ y_ : List Int, y_ = (([100, 101, (-101)] : List Int)) := ⟨_, rfl⟩
     replace H : ((spec_l1PickInt.f t251 t291 t292 y296).bind fun bt299 => ((some (([bt299.1, 0] : List Int) : List Int)).bind fun y302 => (if x13_32.length + y302.length < 17592186044416 then (some (t255, t256, t257, (x13_32 ++ y302))) else (none)))) = some (r1, r2, r3, r4) := by first | (rw [hy296]; with_reducible exact H) | (have H2_ := (Option.bind_some _ _).symm.trans H; rw [hy296]; with_reducible exact H2_) | (have H2_ := (Option.bind_some _ _).symm.trans H; with_reducible exact H2_) | with_reducible exact H | (rw [hy296]; exact H) | exact H
     have Ny296 := Aside0.mk hy296
     clear hy296
     replace H := Option.bind_eq_some_iff.mp H
     obtain ⟨⟨t299, t300, t301⟩, A450, H⟩ := H
     replace H : ((some (([t299, 0] : List Int) : List Int)).bind fun y302 => (if x13_32.length + y302.length < 17592186044416 then (some (t255, t256, t257, (x13_32 ++ y302))) else (none))) = some (r1, r2, r3, r4) := H
     have A45 := Aside0.mk A450
     clear A450
     obtain ⟨y302, hy302⟩ : ∃ y_ : List Int, y_ = (([t299, 0] : List Int)) := ⟨_, rfl⟩
     replace H : (if x13_32.length + y302.length < 17592186044416 then (some (t255, t256, t257, (x13_32 ++ y302))) else (none)) = some (r1, r2, r3, r4) := by first | (rw [hy302]; with_reducible exact H) | (have H2_ := (Option.bind_some _ _).symm.trans H; rw [hy302]; with_reducible exact H2_) | (have H2_ := (Option.bind_some _ _).symm.trans H; with_reducible exact H2_) | with_reducible exact H | (rw [hy302]; exact H) | exact H
     have Ny302 := Aside0.mk hy302
     clear hy302
     by_cases c46 : x13_32.length + y302.length < 17592186044416
     case neg =>
      rw [if_neg c46] at H
      exact absurd H (by simp)
     rw [if_pos c46] at H
     have LMc46 := Aside0.mk c46
     clear c46
     obtain ⟨y305, hy305⟩ : ∃ y_ : List Int, y_ = (x13_32 ++ y302) := ⟨_, rfl⟩
     replace H : (some (t255, t256, t257, y305)) = some (r1, r2, r3, r4) := by first | (rw [hy305]; with_reducible exact H) | (have H2_ := (Option.bind_some _ _).symm.trans H; rw [hy305]; with_reducible exact H2_) | (have H2_ := (Option.bind_some _ _).symm.trans H; with_reducible exact H2_) | with_reducible exact H | (rw [hy305]; exact H) | exact H
     have Ny305 := Aside0.mk hy305
     clear hy305
     simp only [Option.some.injEq, Prod.mk.injEq] at H
     obtain ⟨rfl, rfl, rfl, rfl⟩ := H
     go_wp2_with (first | ((with_reducible refine gate_callee (f := 22) rfl ?_); refine goesL_ (some 62) rfl rfl Try.func22 (by kernel_rfl) rfl #[.pointer (some ⟨g254, 0, none⟩), .int .i64 30] rfl (by (try simp only [List.map_toArray, List.map_cons, List.map_nil]); first | done | rfl | (simp only [List.length_drop, List.length_take]; rfl)) ?_; (with_reducible refine (spec_l1Below.calls g254 t251 x255001_1 x255002_1 30 t290 t291 t292 w _ ?side1 ?side2 A39.out).mono ?_); (case side1 => repeat (first | (with_reducible first | exact HI254.out | apply IsS61.alloc | apply IsS61.drewN | apply IsS61.drew | apply IsS61.set_1 | apply IsS61.set_2) | exact HI254.out)); (case side2 => repeat (first | (with_reducible first | exact HB.out | apply zBa | apply zBn | apply zBd | refine zBs ?_ (IsS61.ge HI254.out)) | exact HB.out)); rintro e w47 ⟨rfl, hi, hb, hk⟩; refine ⟨_, rfl, ?_⟩; have n0_ := Aside0.mk (Kd.R_mono (Kd.R_keep (IsS61.apart (show IsS61 w _ g254 t251 x255001_1 x255002_1 from by repeat (first | (with_reducible first | exact HI254.out | apply IsS61.alloc | apply IsS61.drewN | apply IsS61.drew | apply IsS61.set_1 | apply IsS61.set_2) | exact HI254.out)) (by (with_reducible repeat (first | apply zRa | apply zRn | apply zRd)); first | exact HO_13.out | (subst_vars; exact HO_13.out)) (by decide)) hk (fun _ h => h.2)) (fun _ h => h.1)); have n1_ := Aside0.mk (hb); have n2_ := Aside0.mk (hi); clear HO_13; clear HB; clear HI254; have HO_13 := n0_; have HB := n1_; have HI254 := n2_; clear n0_ n1_ n2_; (try clear hb); (try clear hb2); (try clear hk); (try clear hi)) | ((with_reducible refine gate_dst (N := 72) rfl ?_); refine Kd.R_lit (Kd.int .i64) _ 3 ?hg (N := 72) ?hd (xs := ([100, 101, (-101)] : List Int)) (inner := [.int .i64 100, .int .i64 101, .int .i64 (-101)]) (ok := fun _ => True) (okp := fun _ => True) ?hr ?hp (fun _ hk => hk) trivial (Below.refl _ _) (Nat.le_refl _) (by simp) ?_; (case hd => rfl); (case hg => rfl); (case hr => first | (go_simp; done) | (go_simp; rfl)); (case hp => exact (Reps.one (show Kd.M (Kd.int .i64) _ _ _ 100 [.int .i64 100] from rfl) (Reps.one (show Kd.M (Kd.int .i64) _ _ _ 101 [.int .i64 101] from rfl) (Reps.one (show Kd.M (Kd.int .i64) _ _ _ (-101) [.int .i64 (-101)] from rfl) (Reps.none _ _))))); intro v297 w48 ho49 hb hg_ hnew_; clear hg_ hnew_; (first | rw [← Ny296.out] at ho49 | (simp only [Int.reduceToNat] at ho49; rw [← Ny296.out] at ho49)); have n0_ := Aside0.mk (Kd.R_elder' (by (with_reducible repeat (first | apply zRa | apply zRn | apply zRd)); first | exact HO_13.out | (subst_vars; exact HO_13.out)) (Kd.R_base ho49) hb); have n1_ := Aside0.mk (Kd.R_lower (Kd.R_new' ho49 (Kd.R_lt (by (with_reducible repeat (first | apply zRa | apply zRn | apply zRd)); first | exact HO_13.out | (subst_vars; exact HO_13.out)))) (below_size (by repeat (first | (with_reducible first | exact HB.out | apply zBa | apply zBn | apply zBd | refine zBs ?_ (IsS61.ge HI254.out)) | exact HB.out)))); have n2_ := Aside0.mk (IsS61.below (by repeat (first | (with_reducible first | exact HI254.out | apply IsS61.alloc | apply IsS61.drewN | apply IsS61.drew | apply IsS61.set_1 | apply IsS61.set_2) | exact HI254.out)) hb); have n3_ := Aside0.mk (below_step (by repeat (first | (with_reducible first | exact HB.out | apply zBa | apply zBn | apply zBd | refine zBs ?_ (IsS61.ge HI254.out)) | exact HB.out)) hb); clear HO_13; clear HI254; clear HB; have HO_13 := n0_; have HO298 := n1_; have HI254 := n2_; have HB := n3_; clear n0_ n1_ n2_ n3_; clear hb ho49; obtain ⟨Ao50, co50, eo50⟩ := Kd.R_slice HO298.out; subst eo50) | ((with_reducible refine gate_callee (f := 36) rfl ?_); refine goesL_ (some 73) rfl rfl Try.func36 (by kernel_rfl) rfl #[.pointer (some ⟨g254, 0, none⟩), .slice Ao50 y296.length co50] rfl (by (try simp only [List.map_toArray, List.map_cons, List.map_nil]); first | done | rfl | (simp only [List.length_drop, List.length_take]; rfl)) ?_; (with_reducible refine (spec_l1PickInt.calls g254 t251 t291 t292 _ _ y296 t299 t300 t301 w _ ?side1 ?side2 ?side3 ?side4 ?side5 A45.out).mono ?_); (case side1 => repeat (first | (with_reducible first | exact HI254.out | apply IsS61.alloc | apply IsS61.drewN | apply IsS61.drew | apply IsS61.set_1 | apply IsS61.set_2) | exact HI254.out)); (case side2 => repeat (first | (with_reducible first | exact HB.out | apply zBa | apply zBn | apply zBd | refine zBs ?_ (IsS61.ge HI254.out)) | exact HB.out)); (case side3 => repeat (first | exact (Kd.R_reads' HO298.out).2.2 | (with_reducible first | refine zCa ?_ _ | refine zCn ?_ _ | refine zCd ?_))); (case side4 => exact (Kd.R_reads' HO298.out).2.1); (case side5 => exact far_slice (IsS61.own_ne HI254.out HO298.out (by decide))); rintro e w51 ⟨rfl, hi, hb, hk⟩; refine ⟨_, rfl, ?_⟩; have n0_ := Aside0.mk (Kd.R_mono (Kd.R_keep (IsS61.apart (show IsS61 w _ g254 t251 t291 t292 from by repeat (first | (with_reducible first | exact HI254.out | apply IsS61.alloc | apply IsS61.drewN | apply IsS61.drew | apply IsS61.set_1 | apply IsS61.set_2) | exact HI254.out)) (by (with_reducible repeat (first | apply zRa | apply zRn | apply zRd)); first | exact HO_13.out | (subst_vars; exact HO_13.out)) (by decide)) hk (fun _ h => h.2)) (fun _ h => h.1)); have n1_ := Aside0.mk (Kd.R_mono (Kd.R_keep (IsS61.apart (show IsS61 w _ g254 t251 t291 t292 from by repeat (first | (with_reducible first | exact HI254.out | apply IsS61.alloc | apply IsS61.drewN | apply IsS61.drew | apply IsS61.set_1 | apply IsS61.set_2) | exact HI254.out)) (by (with_reducible repeat (first | apply zRa | apply zRn | apply zRd)); first | exact HO298.out | (subst_vars; exact HO298.out)) (by decide)) hk (fun _ h => h.2)) (fun _ h => h.1)); have n2_ := Aside0.mk (hb); have n3_ := Aside0.mk (hi); clear HO_13; clear HO298; clear HB; clear HI254; have HO_13 := n0_; have HO298 := n1_; have HB := n2_; have HI254 := n3_; clear n0_ n1_ n2_ n3_; (try clear hb); (try clear hb2); (try clear hk); (try clear hi)) | ((with_reducible refine gate_dst (N := 74) rfl ?_); refine Kd.R_lit (Kd.int .i64) _ 3 ?hg (N := 74) ?hd (xs := ([t299, 0] : List Int)) (inner := [.int .i64 t299, .int .i64 0]) (ok := fun _ => True) (okp := fun _ => True) ?hr ?hp (fun _ hk => hk) trivial (Below.refl _ _) (Nat.le_refl _) (by simp) ?_; (case hd => rfl); (case hg => rfl); (case hr => first | (go_simp; done) | (go_simp; rfl)); (case hp => exact (Reps.one (show Kd.M (Kd.int .i64) _ _ _ t299 [.int .i64 t299] from rfl) (Reps.one (show Kd.M (Kd.int .i64) _ _ _ 0 [.int .i64 0] from rfl) (Reps.none _ _)))); intro v303 w52 ho53 hb hg_ hnew_; clear hg_ hnew_; (first | rw [← Ny302.out] at ho53 | (simp only [Int.reduceToNat] at ho53; rw [← Ny302.out] at ho53)); have n0_ := Aside0.mk (Kd.R_elder' (by (with_reducible repeat (first | apply zRa | apply zRn | apply zRd)); first | exact HO_13.out | (subst_vars; exact HO_13.out)) (Kd.R_base ho53) hb); have n1_ := Aside0.mk (Kd.R_elder' (by (with_reducible repeat (first | apply zRa | apply zRn | apply zRd)); first | exact HO298.out | (subst_vars; exact HO298.out)) (Kd.R_base ho53) hb); have n2_ := Aside0.mk (Kd.R_lower (Kd.R_new' (Kd.R_new' ho53 (Kd.R_lt (by (with_reducible repeat (first | apply zRa | apply zRn | apply zRd)); first | exact HO_13.out | (subst_vars; exact HO_13.out)))) (Kd.R_lt (by (with_reducible repeat (first | apply zRa | apply zRn | apply zRd)); first | exact HO298.out | (subst_vars; exact HO298.out)))) (below_size (by repeat (first | (with_reducible first | exact HB.out | apply zBa | apply zBn | apply zBd | refine zBs ?_ (IsS61.ge HI254.out)) | exact HB.out)))); have n3_ := Aside0.mk (IsS61.below (by repeat (first | (with_reducible first | exact HI254.out | apply IsS61.alloc | apply IsS61.drewN | apply IsS61.drew | apply IsS61.set_1 | apply IsS61.set_2) | exact HI254.out)) hb); have n4_ := Aside0.mk (below_step (by repeat (first | (with_reducible first | exact HB.out | apply zBa | apply zBn | apply zBd | refine zBs ?_ (IsS61.ge HI254.out)) | exact HB.out)) hb); clear HO_13; clear HO298; clear HI254; clear HB; have HO_13 := n0_; have HO298 := n1_; have HO304 := n2_; have HI254 := n3_; have HB := n4_; clear n0_ n1_ n2_ n3_ n4_; clear hb ho53; obtain ⟨Ao55, co55, eo55⟩ := Kd.R_slice HO304.out; subst eo55) | ((with_reducible refine gate_builtin (b := .append) (xs := #[.tmp 70, .tmp 74]) rfl ?_); at_builtin; refine Kd.R_append_rows (Kd.int .i64) (w0 := w) w.heap.size rfl (.tmp 70) (.tmp 74) 24 3 (.int .i64 0) 8 rfl Try.underlying24 info3 rfl (by decide) (by omega) u13 x13_32 y302 _ _ _ (fun k_ => some k_ ≠ (.slice Ao50 y296.length co50 : Value).ownBlock ∧ some k_ ≠ (.slice Ao55 y302.length co55 : Value).ownBlock) (fun _ => False) rfl rfl ?aO ?aR (fun _ _ h => h) (fun _ h => h.elim) ?aF ?aB ?aS ?aL ?_; (case aR => repeat (first | exact (Kd.R_reads' HO304.out).2.2 | (with_reducible first | refine zCa ?_ _ | refine zCn ?_ _ | refine zCd ?_))); (case aB => exact (by repeat (first | (with_reducible first | exact HB.out | apply zBa | apply zBn | apply zBd | refine zBs ?_ (IsS61.ge HI254.out)) | exact HB.out))); (case aF => exact (fun k_ hk => ⟨Kd.fresh' (Kd.R_lt (by (with_reducible repeat (first | apply zRa | apply zRn | apply zRd)); first | exact HO298.out | (subst_vars; exact HO298.out))) k_ hk, Kd.fresh' (Kd.R_lt (by (with_reducible repeat (first | apply zRa | apply zRn | apply zRd)); first | exact HO304.out | (subst_vars; exact HO304.out))) k_ hk⟩)); (case aO => exact (by (with_reducible repeat (first | apply zRa | apply zRn | apply zRd)); first | exact Kd.R_mono HO_13.out (fun _ hk => ⟨hk.1.2, hk.2⟩) | (subst_vars; exact Kd.R_mono HO_13.out (fun _ hk => ⟨hk.1.2, hk.2⟩)))); (case aS => exact (below_size (by repeat (first | (with_reducible first | exact HB.out | apply zBa | apply zBn | apply zBd | refine zBs ?_ (IsS61.ge HI254.out)) | exact HB.out)))); (case aL => have := LMc46.out; omega); intro v306 w54 ho hb hg hat; (first | rw [← Ny305.out] at ho | (simp only [Int.reduceToNat] at ho; rw [← Ny305.out] at ho)); have n0_ := Aside0.mk (IsS61.grown (by repeat (first | (with_reducible first | exact HI254.out | apply IsS61.alloc | apply IsS61.drewN | apply IsS61.drew | apply IsS61.set_1 | apply IsS61.set_2) | exact HI254.out)) hg (IsS61.own_ne HI254.out HO_13.out (by decide))); have n1_ := Aside0.mk (Kd.R_after (ok := (fun k_ => some k_ ≠ (.slice Ao55 y302.length co55 : Value).ownBlock)) (by (with_reducible repeat (first | apply zRa | apply zRn | apply zRd)); first | exact Kd.R_mono HO298.out (fun _ hk => ⟨hk.2, hk.1.2⟩) | (subst_vars; exact Kd.R_mono HO298.out (fun _ hk => ⟨hk.2, hk.1.2⟩))) hg hat); have n2_ := Aside0.mk (Kd.R_after (ok := (fun k_ => some k_ ≠ (.slice Ao50 y296.length co50 : Value).ownBlock)) (by (with_reducible repeat (first | apply zRa | apply zRn | apply zRd)); first | exact Kd.R_mono HO304.out (fun _ hk => ⟨hk.2, hk.1.2⟩) | (subst_vars; exact Kd.R_mono HO304.out (fun _ hk => ⟨hk.2, hk.1.2⟩))) hg hat); have n3_ := Aside0.mk (hb); have n4_ := Aside0.mk (ho); clear HI254; clear HO298; clear HO304; clear HB; clear HO_13; have HI254 := n0_; have HO298 := n1_; have HO304 := n2_; have HB := n3_; have HO307 := n4_; clear n0_ n1_ n2_ n3_ n4_; clear ho hb hg hat))
     refine bodyPost_ret (results_list (rs := [.tmp 2, .tmp 3, .tmp 4, .tmp 5]) rfl (by simp) (.tmp (.tmp (.tmp (.tmp .nil))))) rfl ?_
     exact ⟨_, by first | rfl | (simp [errW_none, errW_some] <;> rfl) | (simp [*, errW_none, errW_some] <;> rfl), by (with_reducible repeat (first | apply zRa | apply zRn | apply zRd)); first | exact Kd.R_mono HO307.out (fun _ hk => trivial) | (subst_vars; exact Kd.R_mono HO307.out (fun _ hk => trivial)), by repeat (first | (with_reducible first | exact HB.out | apply zBa | apply zBn | apply zBd | refine zBs ?_ (IsS61.ge HI254.out)) | exact HB.out)⟩

/-! ### laws_at: function 18 -/
def laws_at.f (l0 : List Int) (a1 : Int) : Option (Int) := if a1 < (l0.length : Int) then (if 0 ≤ a1 then (some (wrap64 (rd l0 a1))) else (none)) else (some (Int.tmod (wrap64 ((wrap64 (a1 * 7)) + (l0.length : Int))) 256))
set_option maxHeartbeats 8000000 in
set_option maxRecDepth 100000 in
theorem laws_at.calls (A0 : Option Addr) (c0 : Nat) (l0 : List Int) (a1 : Int) (r : Int) (w : World) (hr0 : Kd.C (Kd.int .u8) w A0 l0.length l0) (hc0 : l0.length ≤ c0) (h : laws_at.f l0 a1 = some r) :
 Calls Try.prog 18 #[.slice A0 l0.length c0, .int .i64 a1] w fun e w' => e = .returned (.int .i64 r) ∧ Drawn0 w w' := by
 have HR0 := Aside0.mk hr0
 have HC0 := Aside0.mk hc0
 clear hr0 hc0
 have H : (if a1 < (l0.length : Int) then (if 0 ≤ a1 then (some (wrap64 (rd l0 a1))) else (none)) else (some (Int.tmod (wrap64 ((wrap64 (a1 * 7)) + (l0.length : Int))) 256))) = some r := h
 clear h
 by_cases c3 : a1 < (l0.length : Int)
 case neg =>
  rw [if_neg c3] at H
  have c3b0 : decide (a1 < (l0.length : Int)) = false := decide_eq_false c3
  clear c3
  obtain rfl := Option.some.inj H
  go_enter Try.func18, Try.ntmps18
  go_wp2
  go_ret
  exact ⟨by first | rfl | (simp; done) | (simp [*]; done), by repeat (first | exact Drawn0.refl _ | apply Drawn0.step)⟩
 rw [if_pos c3] at H
 have c3b0 : decide (a1 < (l0.length : Int)) = true := zE c3
 clear c3
 by_cases c4 : 0 ≤ a1
 case neg =>
  rw [if_neg c4] at H
  exact absurd H (by simp)
 rw [if_pos c4] at H
 have c4b0 : decide (0 ≤ a1) = true := zE c4
 clear c4
 obtain rfl := Option.some.inj H
 have p308 : 0 ≤ (a1 : Int) := zT (by first | (with_reducible assumption) | assumption)
 have q308 : a1 < (l0.length : Int) := zT (by first | (with_reducible assumption) | assumption)
 obtain ⟨ad308, e308, hx308_0⟩ := Kd.at_int HR0.out a1 p308 q308
 cases e308
 replace p308 := eq_true p308
 replace q308 := eq_true q308
 go_enter Try.func18, Try.ntmps18
 go_wp2
 go_ret
 exact ⟨by first | rfl | (simp; done) | (simp [*]; done), by repeat (first | exact Drawn0.refl _ | apply Drawn0.step)⟩

/-! ### laws_scoreOf: function 19 -/
def laws_scoreOf.l0 : Nat → List Int → List Int → Bool → Int → Int → Option (Int)
 | 0, _, _, _, _, _ => none
 | k + 1, x3, x11, x12, x13, x14 => if x14 < (x11.length : Int) then (if x12 = true then (if (x11.length : Int) = (x3.length : Int) then (if 0 ≤ x14 then (if x14 < (x3.length : Int) then (laws_scoreOf.l0 k x3 x11 x12 (wrap64 (x13 + (wrap64 ((rd x3 x14) * (wrap64 ((wrap64 (2 * (rd x11 x14))) - 1)))))) (wrap64 (x14 + 1))) else (none)) else (none)) else (some (-1152921504606846976))) else (some (-1152921504606846976))) else (some x13)
def laws_scoreOf.f (k : Nat) (a0 : Int) (a1 : Int) (a2 : Int) (l3 : List Int) (l4 : List Int) : Option (Int) := (impl_Spread.f k a0 a1 a2 l4).bind fun bt309 => (laws_scoreOf.l0 k l3 bt309.1 bt309.2 0 0)
theorem laws_scoreOf.mono_l : ∀ k, (∀ y0 y1 y2 y3 y4, LeO (laws_scoreOf.l0 k y0 y1 y2 y3 y4) (laws_scoreOf.l0 (k + 1) y0 y1 y2 y3 y4))
 | 0 => fun _ _ _ _ _ r h => by simp [laws_scoreOf.l0] at h
 | k + 1 => by
  have ih0 := laws_scoreOf.mono_l k
  ·intro y0 y1 y2 y3 y4
   unfold laws_scoreOf.l0
   repeat' first
   | (with_reducible exact ih0 _ _ _ _ _)
   | (with_reducible exact impl_Spread.mono _ _ _ _ _)
   | (with_reducible exact LeO.refl _)
   | (with_reducible exact LeO.none _)
   | (with_reducible refine LeO.ite ?_ ?_)
   | (with_reducible refine LeO.bind ?_ (fun _ => ?_))
   | exact ih0 _ _ _ _ _
   | exact impl_Spread.mono _ _ _ _ _
   | exact LeO.none _
   | refine LeO.ite ?_ ?_
   | refine LeO.bind ?_ (fun _ => ?_)
theorem laws_scoreOf.mono : ∀ a0 a1 a2 a3 a4 k, LeO (laws_scoreOf.f k a0 a1 a2 a3 a4) (laws_scoreOf.f (k + 1) a0 a1 a2 a3 a4) := by
 intro a0 a1 a2 a3 a4 k
 have ih0 := laws_scoreOf.mono_l k
 unfold laws_scoreOf.f
 repeat' first
  | (with_reducible exact ih0 _ _ _ _ _)
  | (with_reducible exact impl_Spread.mono _ _ _ _ _)
  | (with_reducible exact LeO.refl _)
  | (with_reducible exact LeO.none _)
  | (with_reducible refine LeO.ite ?_ ?_)
  | (with_reducible refine LeO.bind ?_ (fun _ => ?_))
  | exact ih0 _ _ _ _ _
  | exact impl_Spread.mono _ _ _ _ _
  | exact LeO.none _
  | refine LeO.ite ?_ ?_
  | refine LeO.bind ?_ (fun _ => ?_)
set_option maxHeartbeats 8000000 in
set_option maxRecDepth 100000 in
theorem laws_scoreOf.calls (k : Nat) (a0 : Int) (a1 : Int) (a2 : Int) (A3 : Option Addr) (c3 : Nat) (l3 : List Int) (A4 : Option Addr) (c4 : Nat) (l4 : List Int) (r : Int) (w : World) (hr3 : Kd.C (Kd.int .i64) w A3 l3.length l3) (hc3 : l3.length ≤ c3) (hr4 : Kd.C (Kd.int .i64) w A4 l4.length l4) (hc4 : l4.length ≤ c4) (h : laws_scoreOf.f k a0 a1 a2 l3 l4 = some r) :
 Calls Try.prog 19 #[.int .i64 a0, .int .i64 a1, .int .i64 a2, .slice A3 l3.length c3, .slice A4 l4.length c4] w fun e w' => e = .returned (.int .i64 r) ∧ Below w.heap.size w w' := by
 have HR3 := Aside0.mk hr3
 have HC3 := Aside0.mk hc3
 clear hr3 hc3
 have HR4 := Aside0.mk hr4
 have HC4 := Aside0.mk hc4
 clear hr4 hc4
 have HB := Aside0.mk (Below.refl w.heap.size w)
 have H : ((impl_Spread.f k a0 a1 a2 l4).bind fun bt309 => (laws_scoreOf.l0 k l3 bt309.1 bt309.2 0 0)) = some r := h
 clear h
 replace H := Option.bind_eq_some_iff.mp H
 obtain ⟨⟨t309, t310⟩, A60, H⟩ := H
 replace H : (laws_scoreOf.l0 k l3 t309 t310 0 0) = some r := H
 have A6 := Aside0.mk A60
 clear A60
 have H' := Aside0.mk H
 clear H
 go_enter Try.func19, Try.ntmps19
 go_wp2_with (first | (go_at_call 8; (with_reducible refine (impl_Spread.calls k a0 a1 a2 _ _ l4 t309 t310 _ ?side1 ?side2 A6.out).mono ?_); (case side1 => repeat (first | exact HR4.out | (with_reducible first | refine zCa ?_ _ | refine zCn ?_ _ | refine zCd ?_))); (case side2 => exact HC4.out); rintro e w7 ⟨v311, rfl, ho0, hb⟩; have n0_ := Aside0.mk (Kd.R_lower ho0 (below_size (by repeat (first | (with_reducible first | exact HB.out | apply zBa | apply zBn | apply zBd) | exact HB.out)))); have n1_ := Aside0.mk (below_step (by repeat (first | (with_reducible first | exact HB.out | apply zBa | apply zBn | apply zBd) | exact HB.out)) hb); clear HB; have HO312 := n0_; have HB := n1_; clear n0_ n1_; (try clear hb); (try clear hb2); (try clear hk); (try clear hi); (try clear ho0)))
 repeat (go_quiet (first | (go_at_call 8; (with_reducible refine (impl_Spread.calls k a0 a1 a2 _ _ l4 t309 t310 _ ?side1 ?side2 A6.out).mono ?_); (case side1 => repeat (first | exact HR4.out | (with_reducible first | refine zCa ?_ _ | refine zCn ?_ _ | refine zCd ?_))); (case side2 => exact HC4.out); rintro e w7 ⟨v311, rfl, ho0, hb⟩; have n0_ := Aside0.mk (Kd.R_lower ho0 (below_size (by repeat (first | (with_reducible first | exact HB.out | apply zBa | apply zBn | apply zBd) | exact HB.out)))); have n1_ := Aside0.mk (below_step (by repeat (first | (with_reducible first | exact HB.out | apply zBa | apply zBn | apply zBd) | exact HB.out)) hb); clear HB; have HO312 := n0_; have HB := n1_; clear n0_ n1_; (try clear hb); (try clear hb2); (try clear hk); (try clear hi); (try clear ho0))); try go_wp2_with (first | (go_at_call 8; (with_reducible refine (impl_Spread.calls k a0 a1 a2 _ _ l4 t309 t310 _ ?side1 ?side2 A6.out).mono ?_); (case side1 => repeat (first | exact HR4.out | (with_reducible first | refine zCa ?_ _ | refine zCn ?_ _ | refine zCd ?_))); (case side2 => exact HC4.out); rintro e w7 ⟨v311, rfl, ho0, hb⟩; have n0_ := Aside0.mk (Kd.R_lower ho0 (below_size (by repeat (first | (with_reducible first | exact HB.out | apply zBa | apply zBn | apply zBd) | exact HB.out)))); have n1_ := Aside0.mk (below_step (by repeat (first | (with_reducible first | exact HB.out | apply zBa | apply zBn | apply zBd) | exact HB.out)) hb); clear HB; have HO312 := n0_; have HB := n1_; clear n0_ n1_; (try clear hb); (try clear hb2); (try clear hk); (try clear hi); (try clear ho0))))
 (try simp only [Act.put, List.setIfInBounds_toArray, List.set_cons_zero, List.set_cons_succ])
 go_loopg [13, 14] k (fun kq v13 v14 w' => ∃ (x13_1 : Int) (x14_1 : Int), v13 = .int .i64 x13_1 ∧ v14 = .int .i64 x14_1 ∧ Aside0 (laws_scoreOf.l0 kq l3 t309 t310 x13_1 x14_1 = some r) ∧ Aside0 (kq ≤ k) ∧ Aside0 (Kd.R (Kd.int .i64) 3 w' w.heap.size (fun _ => True) v311 t309) ∧ Aside0 (Below w.heap.size w w'))
 case atStart => exact ⟨(0), (0), (by first | rfl | (simp; done) | (simp [*]; done)), (by first | rfl | (simp; done) | (simp [*]; done)), H', ⟨Nat.le_refl _⟩, ⟨by (with_reducible repeat (first | apply zRa | apply zRn | apply zRd)); first | exact HO312.out | (subst_vars; exact HO312.out)⟩, ⟨by repeat (first | (with_reducible first | exact HB.out | apply zBa | apply zBn | apply zBd) | exact HB.out)⟩⟩
 case round =>
  clear H'
  try clear c1
  try clear p2
  try clear c3
  try clear c4
  obtain ⟨x13_1, x14_1, rfl, rfl, HA, HK1, HO_11, HB⟩ := hrel
  cases gk with
  | zero => exact absurd HA.out (by simp [laws_scoreOf.l0])
  | succ k1 =>
   have H := HA.out
   clear HA
   simp only [laws_scoreOf.l0] at H
   by_cases c8 : x14_1 < (t309.length : Int)
   case neg =>
    rw [if_neg c8] at H
    have c8b0 : decide (x14_1 < (t309.length : Int)) = false := decide_eq_false c8
    clear c8
    obtain rfl := Option.some.inj H
    obtain ⟨Ao16, co16, eo16⟩ := Kd.R_slice HO_11.out
    subst eo16
    go_wp2
    repeat (go_quiet (fail); try go_wp2)
    go_ret
    exact ⟨by first | rfl | (simp [errW_none, errW_some] <;> rfl) | (simp [*, errW_none, errW_some] <;> rfl), by repeat (first | (with_reducible first | exact HB.out | apply zBa | apply zBn | apply zBd) | exact HB.out)⟩
   rw [if_pos c8] at H
   have c8b0 : decide (x14_1 < (t309.length : Int)) = true := zE c8
   clear c8
   by_cases c9 : t310 = true
   case neg =>
    replace c9 := Bool.eq_false_iff.mpr c9
    subst c9
    have H1 : (some (-1152921504606846976)) = some r := by rw [if_neg (show ¬ (false = true) by decide)] at H; exact H
    clear H
    have H := H1
    clear H1
    obtain rfl := Option.some.inj H
    obtain ⟨Ao15, co15, eo15⟩ := Kd.R_slice HO_11.out
    subst eo15
    go_wp2
    repeat (go_quiet (fail); try go_wp2)
    go_ret
    exact ⟨by first | rfl | (simp [errW_none, errW_some] <;> rfl) | (simp [*, errW_none, errW_some] <;> rfl), by repeat (first | (with_reducible first | exact HB.out | apply zBa | apply zBn | apply zBd) | exact HB.out)⟩
   subst c9
   have H1 : (if (t309.length : Int) = (l3.length : Int) then (if 0 ≤ x14_1 then (if x14_1 < (l3.length : Int) then (laws_scoreOf.l0 k1 l3 t309 true (wrap64 (x13_1 + (wrap64 ((rd l3 x14_1) * (wrap64 ((wrap64 (2 * (rd t309 x14_1))) - 1)))))) (wrap64 (x14_1 + 1))) else (none)) else (none)) else (some (-1152921504606846976))) = some r := by rw [if_pos rfl] at H; exact H
   clear H
   have H := H1
   clear H1
   by_cases c10 : (t309.length : Int) = (l3.length : Int)
   case neg =>
    rw [if_neg c10] at H
    have c10b0 : ((t309.length : Int) == (l3.length : Int)) = false := beq_eq_false_iff_ne.mpr c10
    have c10b1 : ((t309.length : Int) != (l3.length : Int)) = true := bne_iff_ne.mpr c10
    have c10b2 : (t309.length == l3.length) = false := by first | simpa using c10 | (simp at c10 ⊢; omega)
    obtain rfl := Option.some.inj H
    obtain ⟨Ao14, co14, eo14⟩ := Kd.R_slice HO_11.out
    subst eo14
    go_wp2
    repeat (go_quiet (fail); try go_wp2)
    go_ret
    exact ⟨by first | rfl | (simp [errW_none, errW_some] <;> rfl) | (simp [*, errW_none, errW_some] <;> rfl), by repeat (first | (with_reducible first | exact HB.out | apply zBa | apply zBn | apply zBd) | exact HB.out)⟩
   rw [if_pos c10] at H
   have c10b0 : ((t309.length : Int) == (l3.length : Int)) = true := beq_iff_eq.mpr c10
   have c10b1 : ((t309.length : Int) != (l3.length : Int)) = false := bne_eq_false_iff_eq.mpr c10
   have c10b2 : (t309.length == l3.length) = true := by first | simpa using c10 | (simp at c10 ⊢; omega)
   clear c10
   by_cases c11 : 0 ≤ x14_1
   case neg =>
    rw [if_neg c11] at H
    exact absurd H (by simp)
   rw [if_pos c11] at H
   have c11b0 : decide (0 ≤ x14_1) = true := zE c11
   clear c11
   by_cases c12 : x14_1 < (l3.length : Int)
   case neg =>
    rw [if_neg c12] at H
    exact absurd H (by simp)
   rw [if_pos c12] at H
   have c12b0 : decide (x14_1 < (l3.length : Int)) = true := zE c12
   clear c12
   have H' := Aside0.mk H
   clear H
   obtain ⟨Ao13, co13, eo13⟩ := Kd.R_slice HO_11.out
   subst eo13
   have p313 : 0 ≤ (x14_1 : Int) := zT (by first | (with_reducible assumption) | assumption)
   have q313 : x14_1 < (l3.length : Int) := zT (by first | (with_reducible assumption) | assumption)
   obtain ⟨ad313, e313, hx313_0⟩ := Kd.at_int HR3.out x14_1 p313 q313
   cases e313
   replace hx313_0 := (HB.out.cell (zW w _ hx313_0)).trans hx313_0
   replace p313 := eq_true p313
   replace q313 := eq_true q313
   have p314 : 0 ≤ (x14_1 : Int) := zT (by first | (with_reducible assumption) | assumption)
   have q314 : x14_1 < (t309.length : Int) := zT (by first | (with_reducible assumption) | assumption)
   obtain ⟨ad314, e314, hx314_0⟩ := Kd.at_int (Kd.R_reads' HO_11.out).2.2 x14_1 p314 q314
   cases e314
   replace p314 := eq_true p314
   replace q314 := eq_true q314
   go_wp2
   repeat (go_quiet (fail); try go_wp2)
   go_roundg k1
   case measure => have := HK1.out; omega
   case rel => exact ⟨(wrap64 (x13_1 + (wrap64 ((rd l3 x14_1) * (wrap64 ((wrap64 (2 * (rd t309 x14_1))) - 1)))))), (wrap64 (x14_1 + 1)), (by first | rfl | (simp; done) | (simp [*]; done)), (by first | rfl | (simp; done) | (simp [*]; done)), H', ⟨by have := HK1.out; omega⟩, ⟨by (with_reducible repeat (first | apply zRa | apply zRn | apply zRd)); first | exact HO_11.out | (subst_vars; exact HO_11.out)⟩, ⟨by repeat (first | (with_reducible first | exact HB.out | apply zBa | apply zBn | apply zBd) | exact HB.out)⟩⟩

end Go.Proofs.Ytoggbgkpeigfmaa.PFnScored
