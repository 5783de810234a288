-- Written by a turned copy of the print (see the notes of this repo): plain functions and their walks. Lean checks it.
import Derived.Test.YtoggbgkpeigfmaaPFnLikeliestx0
import Derived.Test.YtoggbgkpeigfmaaPFnLikeliestx1
import Derived.Test.YtoggbgkpeigfmaaPFnLikeliestx2
import Derived.Test.YtoggbgkpeigfmaaPFnLikeliestx3
namespace Go.Proofs.Ytoggbgkpeigfmaa.PFnLikeliest
open Go.RowKit Go.Proofs.YtoggbgkpeigfmaaW.PrintWords Go.Proofs.YtoggbgkpeigfmaaW.PrintLast Go.Proofs.YtoggbgkpeigfmaaW.PrintMore
attribute [local go_sem] max2_int min2_int max_two min_two max_three min_three max_four min_four   -- for this text's walks alone
set_option linter.unusedVariables false
set_option linter.unusedSimpArgs false

/-! ### laws_sameInts: function 11 -/
def laws_sameInts.l0 : Nat → List Int → List Int → Int → Option (Bool)
 | 0, _, _, _ => none
 | k + 1, x0, x1, x5 => if x5 < (x0.length : Int) then (if 0 ≤ x5 then (if x5 < (x1.length : Int) then (if (rd x0 x5) = (rd x1 x5) then (laws_sameInts.l0 k x0 x1 (wrap64 (x5 + 1))) else (some false)) else (none)) else (none)) else (some true)
def laws_sameInts.f (k : Nat) (l0 : List Int) (l1 : List Int) : Option (Bool) := if (l0.length : Int) = (l1.length : Int) then (laws_sameInts.l0 k l0 l1 0) else (some false)
theorem laws_sameInts.mono_l : ∀ k, (∀ y0 y1 y2, LeO (laws_sameInts.l0 k y0 y1 y2) (laws_sameInts.l0 (k + 1) y0 y1 y2))
 | 0 => fun _ _ _ r h => by simp [laws_sameInts.l0] at h
 | k + 1 => by
  have ih0 := laws_sameInts.mono_l k
  ·intro y0 y1 y2
   unfold laws_sameInts.l0
   repeat' first
   | (with_reducible exact ih0 _ _ _)
   | (with_reducible exact LeO.refl _)
   | (with_reducible exact LeO.none _)
   | (with_reducible refine LeO.ite ?_ ?_)
   | (with_reducible refine LeO.bind ?_ (fun _ => ?_))
   | exact ih0 _ _ _
   | exact LeO.none _
   | refine LeO.ite ?_ ?_
   | refine LeO.bind ?_ (fun _ => ?_)
theorem laws_sameInts.mono : ∀ a0 a1 k, LeO (laws_sameInts.f k a0 a1) (laws_sameInts.f (k + 1) a0 a1) := by
 intro a0 a1 k
 have ih0 := laws_sameInts.mono_l k
 unfold laws_sameInts.f
 repeat' first
  | (with_reducible exact ih0 _ _ _)
  | (with_reducible exact LeO.refl _)
  | (with_reducible exact LeO.none _)
  | (with_reducible refine LeO.ite ?_ ?_)
  | (with_reducible refine LeO.bind ?_ (fun _ => ?_))
  | exact ih0 _ _ _
  | exact LeO.none _
  | refine LeO.ite ?_ ?_
  | refine LeO.bind ?_ (fun _ => ?_)
set_option maxHeartbeats 8000000 in
set_option maxRecDepth 100000 in
theorem laws_sameInts.calls (k : Nat) (A0 : Option Addr) (c0 : Nat) (l0 : List Int) (A1 : Option Addr) (c1 : Nat) (l1 : List Int) (r : Bool) (w : World) (hr0 : Kd.C (Kd.int .i64) w A0 l0.length l0) (hc0 : l0.length ≤ c0) (hr1 : Kd.C (Kd.int .i64) w A1 l1.length l1) (hc1 : l1.length ≤ c1) (h : laws_sameInts.f k l0 l1 = some r) :
 Calls Try.prog 11 #[.slice A0 l0.length c0, .slice A1 l1.length c1] w fun e w' => e = .returned (.bool r) ∧ Drawn0 w w' := by
 have HR0 := Aside0.mk hr0
 have HC0 := Aside0.mk hc0
 clear hr0 hc0
 have HR1 := Aside0.mk hr1
 have HC1 := Aside0.mk hc1
 clear hr1 hc1
 have H : (if (l0.length : Int) = (l1.length : Int) then (laws_sameInts.l0 k l0 l1 0) else (some false)) = some r := h
 clear h
 by_cases c3 : (l0.length : Int) = (l1.length : Int)
 case neg =>
  rw [if_neg c3] at H
  have c3b0 : ((l0.length : Int) == (l1.length : Int)) = false := beq_eq_false_iff_ne.mpr c3
  have c3b1 : ((l0.length : Int) != (l1.length : Int)) = true := bne_iff_ne.mpr c3
  have c3b2 : (l0.length == l1.length) = false := by first | simpa using c3 | (simp at c3 ⊢; omega)
  obtain rfl := Option.some.inj H
  go_enter Try.func11, Try.ntmps11
  go_wp2
  repeat (go_quiet (fail); try go_wp2)
  go_ret
  exact ⟨by first | rfl | (simp; done) | (simp [*]; done), by repeat (first | exact Drawn0.refl _ | apply Drawn0.step)⟩
 rw [if_pos c3] at H
 have c3b0 : ((l0.length : Int) == (l1.length : Int)) = true := beq_iff_eq.mpr c3
 have c3b1 : ((l0.length : Int) != (l1.length : Int)) = false := bne_eq_false_iff_eq.mpr c3
 have c3b2 : (l0.length == l1.length) = true := by first | simpa using c3 | (simp at c3 ⊢; omega)
 clear c3
 have H' := Aside0.mk H
 clear H
 go_enter Try.func11, Try.ntmps11
 go_wp2
 repeat (go_quiet (fail); try go_wp2)
 (try simp only [Act.put, List.setIfInBounds_toArray, List.set_cons_zero, List.set_cons_succ])
 go_loopg [5] k (fun kq v5 w' => ∃ (x5_1 : Int), v5 = .int .i64 x5_1 ∧ Aside0 (laws_sameInts.l0 kq l0 l1 x5_1 = some r) ∧ Aside0 (kq ≤ k) ∧ Drawn0 w w')
 case atStart => exact ⟨(0), (by first | rfl | (simp; done) | (simp [*]; done)), H', ⟨Nat.le_refl _⟩, by repeat (first | exact Drawn0.refl _ | apply Drawn0.step)⟩
 case round =>
  clear H'
  try clear c1
  try clear p2
  try clear c3
  try clear c3b0
  try clear c3b1
  try clear c3b2
  obtain ⟨x5_1, rfl, HA, HK1, ⟨m1, rfl⟩⟩ := hrel
  cases gk with
  | zero => exact absurd HA.out (by simp [laws_sameInts.l0])
  | succ k1 =>
   have H := HA.out
   clear HA
   simp only [laws_sameInts.l0] at H
   by_cases c4 : x5_1 < (l0.length : Int)
   case neg =>
    rw [if_neg c4] at H
    have c4b0 : decide (x5_1 < (l0.length : Int)) = false := decide_eq_false c4
    clear c4
    obtain rfl := Option.some.inj H
    go_wp2
    repeat (go_quiet (fail); try go_wp2)
    go_ret
    exact ⟨by first | rfl | (simp; done) | (simp [*]; done), by repeat (first | exact Drawn0.refl _ | apply Drawn0.step)⟩
   rw [if_pos c4] at H
   have c4b0 : decide (x5_1 < (l0.length : Int)) = true := zE c4
   clear c4
   by_cases c5 : 0 ≤ x5_1
   case neg =>
    rw [if_neg c5] at H
    exact absurd H (by simp)
   rw [if_pos c5] at H
   have c5b0 : decide (0 ≤ x5_1) = true := zE c5
   clear c5
   by_cases c6 : x5_1 < (l1.length : Int)
   case neg =>
    rw [if_neg c6] at H
    exact absurd H (by simp)
   rw [if_pos c6] at H
   have c6b0 : decide (x5_1 < (l1.length : Int)) = true := zE c6
   clear c6
   by_cases c7 : (rd l0 x5_1) = (rd l1 x5_1)
   case neg =>
    rw [if_neg c7] at H
    have c7b0 : ((rd l0 x5_1) == (rd l1 x5_1)) = false := beq_eq_false_iff_ne.mpr c7
    have c7b1 : ((rd l0 x5_1) != (rd l1 x5_1)) = true := bne_iff_ne.mpr c7
    obtain rfl := Option.some.inj H
    have p186 : 0 ≤ (x5_1 : Int) := zT (by first | (with_reducible assumption) | assumption)
    have q186 : x5_1 < (l0.length : Int) := zT (by first | (with_reducible assumption) | assumption)
    obtain ⟨ad186, e186, hx186_0⟩ := Kd.at_int HR0.out x5_1 p186 q186
    cases e186
    replace p186 := eq_true p186
    replace q186 := eq_true q186
    have p187 : 0 ≤ (x5_1 : Int) := zT (by first | (with_reducible assumption) | assumption)
    have q187 : x5_1 < (l1.length : Int) := zT (by first | (with_reducible assumption) | assumption)
    obtain ⟨ad187, e187, hx187_0⟩ := Kd.at_int HR1.out x5_1 p187 q187
    cases e187
    replace p187 := eq_true p187
    replace q187 := eq_true q187
    go_wp2
    repeat (go_quiet (fail); try go_wp2)
    go_ret
    exact ⟨by first | rfl | (simp; done) | (simp [*]; done), by repeat (first | exact Drawn0.refl _ | apply Drawn0.step)⟩
   rw [if_pos c7] at H
   have c7b0 : ((rd l0 x5_1) == (rd l1 x5_1)) = true := beq_iff_eq.mpr c7
   have c7b1 : ((rd l0 x5_1) != (rd l1 x5_1)) = false := bne_eq_false_iff_eq.mpr c7
   clear c7
   have H' := Aside0.mk H
   clear H
   have p186 : 0 ≤ (x5_1 : Int) := zT (by first | (with_reducible assumption) | assumption)
   have q186 : x5_1 < (l0.length : Int) := zT (by first | (with_reducible assumption) | assumption)
   obtain ⟨ad186, e186, hx186_0⟩ := Kd.at_int HR0.out x5_1 p186 q186
   cases e186
   replace p186 := eq_true p186
   replace q186 := eq_true q186
   have p187 : 0 ≤ (x5_1 : Int) := zT (by first | (with_reducible assumption) | assumption)
   have q187 : x5_1 < (l1.length : Int) := zT (by first | (with_reducible assumption) | assumption)
   obtain ⟨ad187, e187, hx187_0⟩ := Kd.at_int HR1.out x5_1 p187 q187
   cases e187
   replace p187 := eq_true p187
   replace q187 := eq_true q187
   go_wp2
   repeat (go_quiet (fail); try go_wp2)
   go_roundg k1
   case measure => have := HK1.out; omega
   case rel => exact ⟨(wrap64 (x5_1 + 1)), (by first | rfl | (simp; done) | (simp [*]; done)), H', ⟨by have := HK1.out; omega⟩, by repeat (first | exact Drawn0.refl _ | apply Drawn0.step)⟩

/-! ### laws_FnLikeliest: function 3 -/
mutual
def laws_FnLikeliest.j0 : Nat → List Int → List Int → List Int → Bool → Option (Bool)
 | 0, _, _, _, _ => none
 | k + 1, x3, x4, x5, x35 => if x35 = true then (some false) else (laws_FnLikeliest.l0 k x3 x4 x5 0)
def laws_FnLikeliest.l0 : Nat → List Int → List Int → List Int → Int → Option (Bool)
 | 0, _, _, _, _ => none
 | k + 1, x3, x4, x5, x7 => if x7 < (x4.length : Int) then (if 0 ≤ x7 then (if 0 ≤ (rd x4 x7) then (if (rd x4 x7) < (x5.length : Int) then (laws_FnLikeliest.l0 k x3 x4 (x5.set ((rd x4 x7) : Int).toNat (wrap64 (1 - (rd x5 (rd x4 x7))))) (wrap64 (x7 + 1))) else (none)) else (none)) else (none)) else ((impl_Soften.f k x5 1).bind fun bt203 => ((impl_Likeliest.f k 2 7 5 bt203.1).bind fun bt207 => (if bt203.2 = true then (if bt207.2.2 = true then ((laws_sameInts.f k bt207.1 x3).bind fun t212 => (if t212 = true then (some (bt207.2.1 == (wrap64 ((x5.length : Int) - (wrap64 (2 * (x4.length : Int))))))) else (some false))) else (some false)) else (some false))))
end
def laws_FnLikeliest.f (k : Nat) (l0 : List Int) : Option (Bool) := (laws_big.f l0).bind fun t188 => (if t188 = true then (some true) else ((spec_DrawNoisy.f k l0).bind fun bt189 => ((impl_Spread.f k 2 7 5 bt189.1).bind fun bt195 => (if bt195.2 = true then (laws_FnLikeliest.j0 k bt189.1 bt189.2 bt195.1 ((bt195.1.length : Int) != (wrap64 (2 * (wrap64 ((bt189.1.length : Int) + 2)))))) else (laws_FnLikeliest.j0 k bt189.1 bt189.2 bt195.1 true)))))
theorem laws_FnLikeliest.mono_l : ∀ k, (∀ y0 y1 y2 y3, LeO (laws_FnLikeliest.j0 k y0 y1 y2 y3) (laws_FnLikeliest.j0 (k + 1) y0 y1 y2 y3)) ∧ (∀ y0 y1 y2 y3, LeO (laws_FnLikeliest.l0 k y0 y1 y2 y3) (laws_FnLikeliest.l0 (k + 1) y0 y1 y2 y3))
 | 0 => ⟨fun _ _ _ _ r h => by simp [laws_FnLikeliest.j0] at h, fun _ _ _ _ r h => by simp [laws_FnLikeliest.l0] at h⟩
 | k + 1 => by
  obtain ⟨ih0, ih1⟩ := laws_FnLikeliest.mono_l k
  refine ⟨?_, ?_⟩
  ·intro y0 y1 y2 y3
   unfold laws_FnLikeliest.j0
   repeat' first
   | (with_reducible exact ih0 _ _ _ _)
   | (with_reducible exact ih1 _ _ _ _)
   | (with_reducible exact impl_Likeliest.mono _ _ _ _ _)
   | (with_reducible exact impl_Soften.mono _ _ _)
   | (with_reducible exact impl_Spread.mono _ _ _ _ _)
   | (with_reducible exact laws_sameInts.mono _ _ _)
   | (with_reducible exact spec_DrawNoisy.mono _ _)
   | (with_reducible exact LeO.refl _)
   | (with_reducible exact LeO.none _)
   | (with_reducible refine LeO.ite ?_ ?_)
   | (with_reducible refine LeO.bind ?_ (fun _ => ?_))
   | exact ih0 _ _ _ _
   | exact ih1 _ _ _ _
   | exact impl_Likeliest.mono _ _ _ _ _
   | exact impl_Soften.mono _ _ _
   | exact impl_Spread.mono _ _ _ _ _
   | exact laws_sameInts.mono _ _ _
   | exact spec_DrawNoisy.mono _ _
   | exact LeO.none _
   | refine LeO.ite ?_ ?_
   | refine LeO.bind ?_ (fun _ => ?_)
  ·intro y0 y1 y2 y3
   unfold laws_FnLikeliest.l0
   repeat' first
   | (with_reducible exact ih0 _ _ _ _)
   | (with_reducible exact ih1 _ _ _ _)
   | (with_reducible exact impl_Likeliest.mono _ _ _ _ _)
   | (with_reducible exact impl_Soften.mono _ _ _)
   | (with_reducible exact impl_Spread.mono _ _ _ _ _)
   | (with_reducible exact laws_sameInts.mono _ _ _)
   | (with_reducible exact spec_DrawNoisy.mono _ _)
   | (with_reducible exact LeO.refl _)
   | (with_reducible exact LeO.none _)
   | (with_reducible refine LeO.ite ?_ ?_)
   | (with_reducible refine LeO.bind ?_ (fun _ => ?_))
   | exact ih0 _ _ _ _
   | exact ih1 _ _ _ _
   | exact impl_Likeliest.mono _ _ _ _ _
   | exact impl_Soften.mono _ _ _
   | exact impl_Spread.mono _ _ _ _ _
   | exact laws_sameInts.mono _ _ _
   | exact spec_DrawNoisy.mono _ _
   | exact LeO.none _
   | refine LeO.ite ?_ ?_
   | refine LeO.bind ?_ (fun _ => ?_)
theorem laws_FnLikeliest.mono : ∀ a0 k, LeO (laws_FnLikeliest.f k a0) (laws_FnLikeliest.f (k + 1) a0) := by
 intro a0 k
 obtain ⟨ih0, ih1⟩ := laws_FnLikeliest.mono_l k
 unfold laws_FnLikeliest.f
 repeat' first
  | (with_reducible exact ih0 _ _ _ _)
  | (with_reducible exact ih1 _ _ _ _)
  | (with_reducible exact impl_Likeliest.mono _ _ _ _ _)
  | (with_reducible exact impl_Soften.mono _ _ _)
  | (with_reducible exact impl_Spread.mono _ _ _ _ _)
  | (with_reducible exact laws_sameInts.mono _ _ _)
  | (with_reducible exact spec_DrawNoisy.mono _ _)
  | (with_reducible exact LeO.refl _)
  | (with_reducible exact LeO.none _)
  | (with_reducible refine LeO.ite ?_ ?_)
  | (with_reducible refine LeO.bind ?_ (fun _ => ?_))
  | exact ih0 _ _ _ _
  | exact ih1 _ _ _ _
  | exact impl_Likeliest.mono _ _ _ _ _
  | exact impl_Soften.mono _ _ _
  | exact impl_Spread.mono _ _ _ _ _
  | exact laws_sameInts.mono _ _ _
  | exact spec_DrawNoisy.mono _ _
  | exact LeO.none _
  | refine LeO.ite ?_ ?_
  | refine LeO.bind ?_ (fun _ => ?_)
def laws_FnLikeliest.T10 : Bool × List (List Nat × List Nat) := (true, [([], []), ([], []), ([], []), ([1, 2], [1, 2]), ([3], [3]), ([], []), ([], []), ([], []), ([6, 7], [6, 7]), ([8], [8]), ([5, 9], [5, 9]), ([10], [10]), ([11], [11]), ([0, 4, 0, 1, 2, 3, 4, 5, 6, 7, 8, 9, 10, 11, 12], [0, 4]), ([13, 12, 0, 1, 2, 3, 4, 5, 6, 7, 8, 9, 10, 11, 12], [12, 13])])
def laws_FnLikeliest.B10 : List Nat := [0, 0, 0, 6, 14, 0, 0, 0, 192, 448, 992, 2016, 4064, 8191, 16383]
theorem laws_FnLikeliest.tab10 : rtab .any (opsOf Try.f3 10) = laws_FnLikeliest.T10 := by kernel_rfl
theorem laws_FnLikeliest.bits10 : waitsOk laws_FnLikeliest.T10.2 laws_FnLikeliest.B10 = true := by kernel_rfl
set_option maxHeartbeats 8000000 in
set_option maxRecDepth 100000 in
theorem laws_FnLikeliest.calls (k : Nat) (A0 : Option Addr) (c0 : Nat) (l0 : List Int) (r : Bool) (w : World) (hr0 : Kd.C (Kd.int .u8) w A0 l0.length l0) (hc0 : l0.length ≤ c0) (hr_ : r = true) (h : laws_FnLikeliest.f k l0 = some r) :
 Calls Try.prog 3 #[.slice A0 l0.length c0] w fun e w' => e = .returned (.bool r) ∧ Below w.heap.size w w' := by
 have HR0 := Aside0.mk hr0
 have HC0 := Aside0.mk hc0
 clear hr0 hc0
 have HB := Aside0.mk (Below.refl w.heap.size w)
 have H : ((laws_big.f l0).bind fun t188 => (if t188 = true then (some true) else ((spec_DrawNoisy.f k l0).bind fun bt189 => ((impl_Spread.f k 2 7 5 bt189.1).bind fun bt195 => (if bt195.2 = true then (laws_FnLikeliest.j0 k bt189.1 bt189.2 bt195.1 ((bt195.1.length : Int) != (wrap64 (2 * (wrap64 ((bt189.1.length : Int) + 2)))))) else (laws_FnLikeliest.j0 k bt189.1 bt189.2 bt195.1 true)))))) = some r := h
 clear h
 replace H := Option.bind_eq_some_iff.mp H
 obtain ⟨t188, A20, H⟩ := H
 replace H : (if t188 = true then (some true) else ((spec_DrawNoisy.f k l0).bind fun bt189 => ((impl_Spread.f k 2 7 5 bt189.1).bind fun bt195 => (if bt195.2 = true then (laws_FnLikeliest.j0 k bt189.1 bt189.2 bt195.1 ((bt195.1.length : Int) != (wrap64 (2 * (wrap64 ((bt189.1.length : Int) + 2)))))) else (laws_FnLikeliest.j0 k bt189.1 bt189.2 bt195.1 true))))) = some r := H
 have A2 := Aside0.mk A20
 clear A20
 by_cases c3 : t188 = true
 case pos =>
  subst c3
  have H1 : (some true) = some r := by rw [if_pos rfl] at H; exact H
  clear H
  have H := H1
  clear H1
  obtain rfl := Option.some.inj H
  go_enter Try.func3, Try.ntmps3
  go_wp2_with (first | ((with_reducible refine gate_callee (f := 6) rfl ?_); refine goesL_ (some 14) rfl rfl Try.func6 (by kernel_rfl) rfl #[.slice A0 l0.length c0] rfl (by (try simp only [List.map_toArray, List.map_cons, List.map_nil]); first | done | rfl | (simp only [List.length_drop, List.length_take]; rfl)) ?_; (with_reducible refine (laws_big.calls _ _ l0 true _ ?side1 ?side2 A2.out).mono ?_); (case side1 => repeat (first | exact HR0.out | (with_reducible first | refine zCa ?_ _ | refine zCn ?_ _ | refine zCd ?_))); (case side2 => exact HC0.out); rintro e w' ⟨rfl, ⟨nd, rfl⟩⟩; refine ⟨_, rfl, ?_⟩))
  go_ret
  exact ⟨by first | rfl | (simp [errW_none, errW_some] <;> rfl) | (simp [*, errW_none, errW_some] <;> rfl), by repeat (first | (with_reducible first | exact HB.out | apply zBa | apply zBn | apply zBd) | exact HB.out)⟩
 replace c3 := Bool.eq_false_iff.mpr c3
 subst c3
 have H1 : ((spec_DrawNoisy.f k l0).bind fun bt189 => ((impl_Spread.f k 2 7 5 bt189.1).bind fun bt195 => (if bt195.2 = true then (laws_FnLikeliest.j0 k bt189.1 bt189.2 bt195.1 ((bt195.1.length : Int) != (wrap64 (2 * (wrap64 ((bt189.1.length : Int) + 2)))))) else (laws_FnLikeliest.j0 k bt189.1 bt189.2 bt195.1 true)))) = some r := by rw [if_neg (show ¬ (false = true) by decide)] at H; exact H
 clear H
 have H := H1
 clear H1
 replace H := Option.bind_eq_some_iff.mp H
 obtain ⟨⟨t189, t190⟩, A40, H⟩ := H
 replace H : ((impl_Spread.f k 2 7 5 t189).bind fun bt195 => (if bt195.2 = true then (laws_FnLikeliest.j0 k t189 t190 bt195.1 ((bt195.1.length : Int) != (wrap64 (2 * (wrap64 ((t189.length : Int) + 2)))))) else (laws_FnLikeliest.j0 k t189 t190 bt195.1 true))) = some r := H
 have A4 := Aside0.mk A40
 clear A40
 replace H := Option.bind_eq_some_iff.mp H
 obtain ⟨⟨t195, t196⟩, A50, H⟩ := H
 replace H : (if t196 = true then (laws_FnLikeliest.j0 k t189 t190 t195 ((t195.length : Int) != (wrap64 (2 * (wrap64 ((t189.length : Int) + 2)))))) else (laws_FnLikeliest.j0 k t189 t190 t195 true)) = some r := H
 have A5 := Aside0.mk A50
 clear A50
 have HC6 := Aside0.mk H
 clear H
 go_enter Try.func3, Try.ntmps3
 go_upto_region 5 with (first | ((with_reducible refine gate_callee (f := 6) rfl ?_); refine goesL_ (some 14) rfl rfl Try.func6 (by kernel_rfl) rfl #[.slice A0 l0.length c0] rfl (by (try simp only [List.map_toArray, List.map_cons, List.map_nil]); first | done | rfl | (simp only [List.length_drop, List.length_take]; rfl)) ?_; (with_reducible refine (laws_big.calls _ _ l0 false _ ?side1 ?side2 A2.out).mono ?_); (case side1 => repeat (first | exact HR0.out | (with_reducible first | refine zCa ?_ _ | refine zCn ?_ _ | refine zCd ?_))); (case side2 => exact HC0.out); rintro e w' ⟨rfl, ⟨nd, rfl⟩⟩; refine ⟨_, rfl, ?_⟩) | ((with_reducible refine gate_callee (f := 7) rfl ?_); refine goesL_ (some 17) rfl rfl Try.func7 (by kernel_rfl) rfl #[.slice A0 l0.length c0] rfl (by (try simp only [List.map_toArray, List.map_cons, List.map_nil]); first | done | rfl | (simp only [List.length_drop, List.length_take]; rfl)) ?_; (with_reducible refine (spec_DrawNoisy.calls k _ _ l0 t189 t190 _ ?side1 ?side2 A4.out).mono ?_); (case side1 => repeat (first | exact HR0.out | (with_reducible first | refine zCa ?_ _ | refine zCn ?_ _ | refine zCd ?_))); (case side2 => exact HC0.out); rintro e w7 ⟨v191, v193, rfl, ho0, ho1, hb⟩; refine ⟨_, rfl, ?_⟩; have n0_ := Aside0.mk (Kd.R_lower ho0 (below_size (by repeat (first | (with_reducible first | exact HB.out | apply zBa | apply zBn | apply zBd) | exact HB.out)))); have n1_ := Aside0.mk (Kd.R_lower ho1 (below_size (by repeat (first | (with_reducible first | exact HB.out | apply zBa | apply zBn | apply zBd) | exact HB.out)))); have n2_ := Aside0.mk (below_step (by repeat (first | (with_reducible first | exact HB.out | apply zBa | apply zBn | apply zBd) | exact HB.out)) hb); clear HB; have HO192 := n0_; have HO194 := n1_; have HB := n2_; clear n0_ n1_ n2_; (try clear hb); (try clear hb2); (try clear hk); (try clear hi); (try clear ho0); (try clear ho1); obtain ⟨Ao8, co8, eo8⟩ := Kd.R_slice HO192.out; subst eo8) | ((with_reducible refine gate_callee (f := 8) rfl ?_); refine goesL_ (some 22) rfl rfl Try.func8 (by kernel_rfl) rfl #[.int .i64 2, .int .i64 7, .int .i64 5, .slice Ao8 t189.length co8] rfl (by (try simp only [List.map_toArray, List.map_cons, List.map_nil]); first | done | rfl | (simp only [List.length_drop, List.length_take]; rfl)) ?_; (with_reducible refine (impl_Spread.calls k 2 7 5 _ _ t189 t195 t196 _ ?side1 ?side2 A5.out).mono ?_); (case side1 => repeat (first | exact (Kd.R_reads' HO192.out).2.2 | (with_reducible first | refine zCa ?_ _ | refine zCn ?_ _ | refine zCd ?_))); (case side2 => exact (Kd.R_reads' HO192.out).2.1); rintro e w9 ⟨v197, rfl, ho0, hb⟩; refine ⟨_, rfl, ?_⟩; have n0_ := Aside0.mk (Kd.R_elder' (by (with_reducible repeat (first | apply zRa | apply zRn | apply zRd)); first | exact HO192.out | (subst_vars; exact HO192.out)) (Kd.R_base ho0) hb); have n1_ := Aside0.mk (Kd.R_elder' (by (with_reducible repeat (first | apply zRa | apply zRn | apply zRd)); first | exact HO194.out | (subst_vars; exact HO194.out)) (Kd.R_base ho0) hb); have n2_ := Aside0.mk (Kd.R_lower (Kd.R_new' (Kd.R_new' ho0 (Kd.R_lt (by (with_reducible repeat (first | apply zRa | apply zRn | apply zRd)); first | exact HO192.out | (subst_vars; exact HO192.out)))) (Kd.R_lt (by (with_reducible repeat (first | apply zRa | apply zRn | apply zRd)); first | exact HO194.out | (subst_vars; exact HO194.out)))) (below_size (by repeat (first | (with_reducible first | exact HB.out | apply zBa | apply zBn | apply zBd) | exact HB.out)))); have n3_ := Aside0.mk (below_step (by repeat (first | (with_reducible first | exact HB.out | apply zBa | apply zBn | apply zBd) | exact HB.out)) hb); clear HO192; clear HO194; clear HB; have HO192 := n0_; have HO194 := n1_; have HO198 := n2_; have HB := n3_; clear n0_ n1_ n2_ n3_; (try clear hb); (try clear hb2); (try clear hk); (try clear hi); (try clear ho0)))
 (try simp only [Act.put, List.setIfInBounds_toArray, List.set_cons_zero, List.set_cons_succ])
 go_cut [35] (fun v35 wc => ∃ (kq : Nat) (x35_5 : Bool), v35 = .bool x35_5 ∧ Aside0 (laws_FnLikeliest.j0 kq t189 t190 t195 x35_5 = some r) ∧ Aside0 (kq ≤ k) ∧ Aside0 (Kd.R (Kd.int .i64) 3 wc w.heap.size (fun k_ => some k_ ≠ (v193 : Value).ownBlock ∧ some k_ ≠ (v197 : Value).ownBlock) (.slice Ao8 t189.length co8) t189) ∧ Aside0 (Kd.R (Kd.int .i64) 3 wc w.heap.size (fun k_ => some k_ ≠ ((.slice Ao8 t189.length co8) : Value).ownBlock ∧ some k_ ≠ (v197 : Value).ownBlock) v193 t190) ∧ Aside0 (Kd.R (Kd.int .i64) 3 wc w.heap.size (fun k_ => some k_ ≠ ((.slice Ao8 t189.length co8) : Value).ownBlock ∧ some k_ ≠ (v193 : Value).ownBlock) v197 t195) ∧ Aside0 (Below w.heap.size w wc))
 case first =>
  have H := HC6.out
  clear HC6
  by_cases c10 : t196 = true
  case neg =>
   replace c10 := Bool.eq_false_iff.mpr c10
   subst c10
   have H1 : (laws_FnLikeliest.j0 k t189 t190 t195 true) = some r := by rw [if_neg (show ¬ (false = true) by decide)] at H; exact H
   clear H
   have H := H1
   clear H1
   have H' := Aside0.mk H
   clear H
   go_wp2
   go_meet
   case rel => exact ⟨_, (true), (by first | rfl | (simp; done) | (simp [*]; done)), H', ⟨by first | omega | exact Nat.le_refl _⟩, ⟨by (with_reducible repeat (first | apply zRa | apply zRn | apply zRd)); first | exact HO192.out | (subst_vars; exact HO192.out)⟩, ⟨by (with_reducible repeat (first | apply zRa | apply zRn | apply zRd)); first | exact HO194.out | (subst_vars; exact HO194.out)⟩, ⟨by (with_reducible repeat (first | apply zRa | apply zRn | apply zRd)); first | exact Kd.R_mono HO198.out (fun _ hk => ⟨hk.1.2, hk.2⟩) | (subst_vars; exact Kd.R_mono HO198.out (fun _ hk => ⟨hk.1.2, hk.2⟩))⟩, ⟨by repeat (first | (with_reducible first | exact HB.out | apply zBa | apply zBn | apply zBd) | exact HB.out)⟩⟩
  subst c10
  have H1 : (laws_FnLikeliest.j0 k t189 t190 t195 ((t195.length : Int) != (wrap64 (2 * (wrap64 ((t189.length : Int) + 2)))))) = some r := by rw [if_pos rfl] at H; exact H
  clear H
  have H := H1
  clear H1
  have H' := Aside0.mk H
  clear H
  obtain ⟨Ao11, co11, eo11⟩ := Kd.R_slice HO198.out
  subst eo11
  go_wp2
  go_meet
  case rel => exact ⟨_, (((t195.length : Int) != (wrap64 (2 * (wrap64 ((t189.length : Int) + 2)))))), (by first | rfl | (simp; done) | (simp [*]; done)), H', ⟨by first | omega | exact Nat.le_refl _⟩, ⟨by (with_reducible repeat (first | apply zRa | apply zRn | apply zRd)); first | exact HO192.out | (subst_vars; exact HO192.out)⟩, ⟨by (with_reducible repeat (first | apply zRa | apply zRn | apply zRd)); first | exact HO194.out | (subst_vars; exact HO194.out)⟩, ⟨by (with_reducible repeat (first | apply zRa | apply zRn | apply zRd)); first | exact Kd.R_mono HO198.out (fun _ hk => ⟨hk.1.2, hk.2⟩) | (subst_vars; exact Kd.R_mono HO198.out (fun _ hk => ⟨hk.1.2, hk.2⟩))⟩, ⟨by repeat (first | (with_reducible first | exact HB.out | apply zBa | apply zBn | apply zBd) | exact HB.out)⟩⟩
 case rest =>
  clear HC6
  try clear c1
  try clear p2
  try clear c3
  try clear c6
  try clear p6
  try clear c7
  try clear c8
  try clear c10
  obtain ⟨kq, x35_5, rfl, HA, HJ5, HO_3, HO_4, HO_5, HB⟩ := hcut
  cases kq with
  | zero => exact absurd HA.out (by simp [laws_FnLikeliest.j0])
  | succ kj5 =>
   have H := HA.out
   clear HA
   simp only [laws_FnLikeliest.j0] at H
   by_cases c12 : x35_5 = true
   case pos =>
    subst c12
    have H1 : (some false) = some r := by rw [if_pos rfl] at H; exact H
    clear H
    have H := H1
    clear H1
    exact absurd (Option.some.inj H) (by rw [hr_]; decide)
   replace c12 := Bool.eq_false_iff.mpr c12
   subst c12
   have H1 : (laws_FnLikeliest.l0 kj5 t189 t190 t195 0) = some r := by rw [if_neg (show ¬ (false = true) by decide)] at H; exact H
   clear H
   have H := H1
   clear H1
   have H' := Aside0.mk H
   clear H
   go_wp2
   (try simp only [Act.put, List.setIfInBounds_toArray, List.set_cons_zero, List.set_cons_succ])
   go_loopg [7] kj5 (fun kq v7 w' => ∃ (x5_2 : List Int) (x7_2 : Int), v7 = .int .i64 x7_2 ∧ Aside0 (laws_FnLikeliest.l0 kq t189 t190 x5_2 x7_2 = some r) ∧ Aside0 (kq ≤ kj5) ∧ Aside0 (Kd.R (Kd.int .i64) 3 w' w.heap.size (fun k_ => some k_ ≠ (v193 : Value).ownBlock ∧ some k_ ≠ (v197 : Value).ownBlock) (.slice Ao8 t189.length co8) t189) ∧ Aside0 (Kd.R (Kd.int .i64) 3 w' w.heap.size (fun k_ => some k_ ≠ ((.slice Ao8 t189.length co8) : Value).ownBlock ∧ some k_ ≠ (v197 : Value).ownBlock) v193 t190) ∧ Aside0 (Kd.R (Kd.int .i64) 3 w' w.heap.size (fun k_ => some k_ ≠ ((.slice Ao8 t189.length co8) : Value).ownBlock ∧ some k_ ≠ (v193 : Value).ownBlock) v197 x5_2) ∧ Aside0 (Below w.heap.size w w'))
   case atStart => exact ⟨(t195), (0), (by first | rfl | (simp; done) | (simp [*]; done)), H', ⟨Nat.le_refl _⟩, ⟨by (with_reducible repeat (first | apply zRa | apply zRn | apply zRd)); first | exact HO_3.out | (subst_vars; exact HO_3.out)⟩, ⟨by (with_reducible repeat (first | apply zRa | apply zRn | apply zRd)); first | exact HO_4.out | (subst_vars; exact HO_4.out)⟩, ⟨by (with_reducible repeat (first | apply zRa | apply zRn | apply zRd)); first | exact HO_5.out | (subst_vars; exact HO_5.out)⟩, ⟨by repeat (first | (with_reducible first | exact HB.out | apply zBa | apply zBn | apply zBd) | exact HB.out)⟩⟩
   case round =>
    clear H'
    try clear c1
    try clear p2
    try clear c3
    try clear c6
    try clear p6
    try clear c7
    try clear c8
    try clear c10
    try clear c12
    try clear p2
    try clear p6
    obtain ⟨x5_2, x7_2, rfl, HA, HK2, HO_3, HO_4, HO_5, HB⟩ := hrel
    cases gk with
    | zero => exact absurd HA.out (by simp [laws_FnLikeliest.l0])
    | succ k2 =>
     have H := HA.out
     clear HA
     simp only [laws_FnLikeliest.l0] at H
     by_cases c13 : x7_2 < (t190.length : Int)
     case neg =>
      rw [if_neg c13] at H
      have c13b0 : decide (x7_2 < (t190.length : Int)) = false := decide_eq_false c13
      clear c13
      replace H := Option.bind_eq_some_iff.mp H
      obtain ⟨⟨t203, t204⟩, A220, H⟩ := H
      replace H : ((impl_Likeliest.f k2 2 7 5 t203).bind fun bt207 => (if t204 = true then (if bt207.2.2 = true then ((laws_sameInts.f k2 bt207.1 t189).bind fun t212 => (if t212 = true then (some (bt207.2.1 == (wrap64 ((x5_2.length : Int) - (wrap64 (2 * (t190.length : Int))))))) else (some false))) else (some false)) else (some false))) = some r := H
      have A22 := Aside0.mk A220
      clear A220
      replace H := Option.bind_eq_some_iff.mp H
      obtain ⟨⟨t207, t208, t209⟩, A230, H⟩ := H
      replace H : (if t204 = true then (if t209 = true then ((laws_sameInts.f k2 t207 t189).bind fun t212 => (if t212 = true then (some (t208 == (wrap64 ((x5_2.length : Int) - (wrap64 (2 * (t190.length : Int))))))) else (some false))) else (some false)) else (some false)) = some r := H
      have A23 := Aside0.mk A230
      clear A230
      by_cases c24 : t204 = true
      case neg =>
       replace c24 := Bool.eq_false_iff.mpr c24
       subst c24
       have H1 : (some false) = some r := by rw [if_neg (show ¬ (false = true) by decide)] at H; exact H
       clear H
       have H := H1
       clear H1
       exact absurd (Option.some.inj H) (by rw [hr_]; decide)
      subst c24
      have H1 : (if t209 = true then ((laws_sameInts.f k2 t207 t189).bind fun t212 => (if t212 = true then (some (t208 == (wrap64 ((x5_2.length : Int) - (wrap64 (2 * (t190.length : Int))))))) else (some false))) else (some false)) = some r := by rw [if_pos rfl] at H; exact H
      clear H
      have H := H1
      clear H1
      by_cases c25 : t209 = true
      case neg =>
       replace c25 := Bool.eq_false_iff.mpr c25
       subst c25
       have H1 : (some false) = some r := by rw [if_neg (show ¬ (false = true) by decide)] at H; exact H
       clear H
       have H := H1
       clear H1
       exact absurd (Option.some.inj H) (by rw [hr_]; decide)
      subst c25
      have H1 : ((laws_sameInts.f k2 t207 t189).bind fun t212 => (if t212 = true then (some (t208 == (wrap64 ((x5_2.length : Int) - (wrap64 (2 * (t190.length : Int))))))) else (some false))) = some r := by rw [if_pos rfl] at H; exact H
      clear H
      have H := H1
      clear H1
      replace H := Option.bind_eq_some_iff.mp H
      obtain ⟨t212, A260, H⟩ := H
      replace H : (if t212 = true then (some (t208 == (wrap64 ((x5_2.length : Int) - (wrap64 (2 * (t190.length : Int))))))) else (some false)) = some r := H
      have A26 := Aside0.mk A260
      clear A260
      by_cases c27 : t212 = true
      case neg =>
       replace c27 := Bool.eq_false_iff.mpr c27
       subst c27
       have H1 : (some false) = some r := by rw [if_neg (show ¬ (false = true) by decide)] at H; exact H
       clear H
       have H := H1
       clear H1
       exact absurd (Option.some.inj H) (by rw [hr_]; decide)
      subst c27
      have H1 : (some (t208 == (wrap64 ((x5_2.length : Int) - (wrap64 (2 * (t190.length : Int))))))) = some r := by rw [if_pos rfl] at H; exact H
      clear H
      have H := H1
      clear H1
      obtain rfl := Option.some.inj H
      obtain ⟨Ao28, co28, eo28⟩ := Kd.R_slice HO_4.out
      subst eo28
      obtain ⟨Ao29, co29, eo29⟩ := Kd.R_slice HO_5.out
      subst eo29
      go_wp2_with (first | ((with_reducible refine gate_callee (f := 9) rfl ?_); refine goesL_ (some 58) rfl rfl Try.func9 (by kernel_rfl) rfl #[.slice Ao29 x5_2.length co29, .int .i64 1] rfl (by (try simp only [List.map_toArray, List.map_cons, List.map_nil]); first | done | rfl | (simp only [List.length_drop, List.length_take]; rfl)) ?_; (with_reducible refine (impl_Soften.calls k2 _ _ x5_2 1 t203 true _ ?side1 ?side2 A22.out).mono ?_); (case side1 => repeat (first | exact (Kd.R_reads' HO_5.out).2.2 | (with_reducible first | refine zCa ?_ _ | refine zCn ?_ _ | refine zCd ?_))); (case side2 => exact (Kd.R_reads' HO_5.out).2.1); rintro e w30 ⟨v205, rfl, ho0, hb⟩; refine ⟨_, rfl, ?_⟩; have n0_ := Aside0.mk (Kd.R_elder' (by (with_reducible repeat (first | apply zRa | apply zRn | apply zRd)); first | exact HO_3.out | (subst_vars; exact HO_3.out)) (Kd.R_base ho0) hb); have n1_ := Aside0.mk (Kd.R_elder' (by (with_reducible repeat (first | apply zRa | apply zRn | apply zRd)); first | exact HO_4.out | (subst_vars; exact HO_4.out)) (Kd.R_base ho0) hb); have n2_ := Aside0.mk (Kd.R_elder' (by (with_reducible repeat (first | apply zRa | apply zRn | apply zRd)); first | exact HO_5.out | (subst_vars; exact HO_5.out)) (Kd.R_base ho0) hb); have n3_ := Aside0.mk (Kd.R_lower (Kd.R_new' (Kd.R_new' (Kd.R_new' ho0 (Kd.R_lt (by (with_reducible repeat (first | apply zRa | apply zRn | apply zRd)); first | exact HO_3.out | (subst_vars; exact HO_3.out)))) (Kd.R_lt (by (with_reducible repeat (first | apply zRa | apply zRn | apply zRd)); first | exact HO_4.out | (subst_vars; exact HO_4.out)))) (Kd.R_lt (by (with_reducible repeat (first | apply zRa | apply zRn | apply zRd)); first | exact HO_5.out | (subst_vars; exact HO_5.out)))) (below_size (by repeat (first | (with_reducible first | exact HB.out | apply zBa | apply zBn | apply zBd) | exact HB.out)))); have n4_ := Aside0.mk (below_step (by repeat (first | (with_reducible first | exact HB.out | apply zBa | apply zBn | apply zBd) | exact HB.out)) hb); clear HO_3; clear HO_4; clear HO_5; clear HB; have HO_3 := n0_; have HO_4 := n1_; have HO_5 := n2_; have HO206 := n3_; have HB := n4_; clear n0_ n1_ n2_ n3_ n4_; (try clear hb); (try clear hb2); (try clear hk); (try clear hi); (try clear ho0); obtain ⟨Ao31, co31, eo31⟩ := Kd.R_slice HO206.out; subst eo31) | ((with_reducible refine gate_callee (f := 10) rfl ?_); refine goesL_ (some 63) rfl rfl Try.func10 (by kernel_rfl) rfl #[.int .i64 2, .int .i64 7, .int .i64 5, .slice Ao31 t203.length co31] rfl (by (try simp only [List.map_toArray, List.map_cons, List.map_nil]); first | done | rfl | (simp only [List.length_drop, List.length_take]; rfl)) ?_; (with_reducible refine (impl_Likeliest.calls k2 2 7 5 _ _ t203 t207 t208 true _ ?side1 ?side2 A23.out).mono ?_); (case side1 => repeat (first | exact (Kd.R_reads' HO206.out).2.2 | (with_reducible first | refine zCa ?_ _ | refine zCn ?_ _ | refine zCd ?_))); (case side2 => exact (Kd.R_reads' HO206.out).2.1); rintro e w32 ⟨v210, rfl, ho0, hb⟩; refine ⟨_, rfl, ?_⟩; have n0_ := Aside0.mk (Kd.R_elder' (by (with_reducible repeat (first | apply zRa | apply zRn | apply zRd)); first | exact HO_3.out | (subst_vars; exact HO_3.out)) (Kd.R_base ho0) hb); have n1_ := Aside0.mk (Kd.R_elder' (by (with_reducible repeat (first | apply zRa | apply zRn | apply zRd)); first | exact HO_4.out | (subst_vars; exact HO_4.out)) (Kd.R_base ho0) hb); have n2_ := Aside0.mk (Kd.R_elder' (by (with_reducible repeat (first | apply zRa | apply zRn | apply zRd)); first | exact HO_5.out | (subst_vars; exact HO_5.out)) (Kd.R_base ho0) hb); have n3_ := Aside0.mk (Kd.R_elder' (by (with_reducible repeat (first | apply zRa | apply zRn | apply zRd)); first | exact HO206.out | (subst_vars; exact HO206.out)) (Kd.R_base ho0) hb); have n4_ := Aside0.mk (Kd.R_lower (Kd.R_new' (Kd.R_new' (Kd.R_new' (Kd.R_new' ho0 (Kd.R_lt (by (with_reducible repeat (first | apply zRa | apply zRn | apply zRd)); first | exact HO_3.out | (subst_vars; exact HO_3.out)))) (Kd.R_lt (by (with_reducible repeat (first | apply zRa | apply zRn | apply zRd)); first | exact HO_4.out | (subst_vars; exact HO_4.out)))) (Kd.R_lt (by (with_reducible repeat (first | apply zRa | apply zRn | apply zRd)); first | exact HO_5.out | (subst_vars; exact HO_5.out)))) (Kd.R_lt (by (with_reducible repeat (first | apply zRa | apply zRn | apply zRd)); first | exact HO206.out | (subst_vars; exact HO206.out)))) (below_size (by repeat (first | (with_reducible first | exact HB.out | apply zBa | apply zBn | apply zBd) | exact HB.out)))); have n5_ := Aside0.mk (below_step (by repeat (first | (with_reducible first | exact HB.out | apply zBa | apply zBn | apply zBd) | exact HB.out)) hb); clear HO_3; clear HO_4; clear HO_5; clear HO206; clear HB; have HO_3 := n0_; have HO_4 := n1_; have HO_5 := n2_; have HO206 := n3_; have HO211 := n4_; have HB := n5_; clear n0_ n1_ n2_ n3_ n4_ n5_; (try clear hb); (try clear hb2); (try clear hk); (try clear hi); (try clear ho0); obtain ⟨Ao33, co33, eo33⟩ := Kd.R_slice HO211.out; subst eo33) | (go_at_call 11; (with_reducible refine (laws_sameInts.calls k2 _ _ t207 _ _ t189 true _ ?side1 ?side2 ?side3 ?side4 A26.out).mono ?_); (case side1 => repeat (first | exact (Kd.R_reads' HO211.out).2.2 | (with_reducible first | refine zCa ?_ _ | refine zCn ?_ _ | refine zCd ?_))); (case side2 => exact (Kd.R_reads' HO211.out).2.1); (case side3 => repeat (first | exact (Kd.R_reads' HO_3.out).2.2 | (with_reducible first | refine zCa ?_ _ | refine zCn ?_ _ | refine zCd ?_))); (case side4 => exact (Kd.R_reads' HO_3.out).2.1); rintro e w' ⟨rfl, ⟨nd, rfl⟩⟩))
      go_ret
      exact ⟨by first | rfl | (simp [errW_none, errW_some] <;> rfl) | (simp [*, errW_none, errW_some] <;> rfl), by repeat (first | (with_reducible first | exact HB.out | apply zBa | apply zBn | apply zBd) | exact HB.out)⟩
     rw [if_pos c13] at H
     have c13b0 : decide (x7_2 < (t190.length : Int)) = true := zE c13
     clear c13
     by_cases c14 : 0 ≤ x7_2
     case neg =>
      rw [if_neg c14] at H
      exact absurd H (by simp)
     rw [if_pos c14] at H
     have c14b0 : decide (0 ≤ x7_2) = true := zE c14
     clear c14
     by_cases c15 : 0 ≤ (rd t190 x7_2)
     case neg =>
      rw [if_neg c15] at H
      exact absurd H (by simp)
     rw [if_pos c15] at H
     have c15b0 : decide (0 ≤ (rd t190 x7_2)) = true := zE c15
     clear c15
     by_cases c16 : (rd t190 x7_2) < (x5_2.length : Int)
     case neg =>
      rw [if_neg c16] at H
      exact absurd H (by simp)
     rw [if_pos c16] at H
     have c16b0 : decide ((rd t190 x7_2) < (x5_2.length : Int)) = true := zE c16
     clear c16
     obtain ⟨y202, hy202⟩ : ∃ y_ : List Int, y_ = (x5_2.set ((rd t190 x7_2) : Int).toNat (wrap64 (1 - (rd x5_2 (rd t190 x7_2))))) := ⟨_, rfl⟩
     replace H : (laws_FnLikeliest.l0 k2 t189 t190 y202 (wrap64 (x7_2 + 1))) = some r := by first | (rw [hy202]; with_reducible exact H) | (have H2_ := (Option.bind_some _ _).symm.trans H; rw [hy202]; with_reducible exact H2_) | (have H2_ := (Option.bind_some _ _).symm.trans H; with_reducible exact H2_) | with_reducible exact H | (rw [hy202]; exact H) | exact H
     have Ny202 := Aside0.mk hy202
     clear hy202
     have H' := Aside0.mk H
     clear H
     obtain ⟨Ao18, co18, eo18⟩ := Kd.R_slice HO_4.out
     subst eo18
     try go_wp2
     have n0_ := Aside0.mk (zRd HO_3.out)
     have n1_ := Aside0.mk (zRd HO_4.out)
     have n2_ := Aside0.mk (zRd HO_5.out)
     have n3_ := Aside0.mk (zBd HB.out)
     clear HO_3
     clear HO_4
     clear HO_5
     clear HB
     have HO_3 := n0_
     have HO_4 := n1_
     have HO_5 := n2_
     have HB := n3_
     clear n0_ n1_ n2_ n3_
     have p199 : 0 ≤ (x7_2 : Int) := zT (by first | (with_reducible assumption) | assumption)
     have q199 : x7_2 < (t190.length : Int) := zT (by first | (with_reducible assumption) | assumption)
     obtain ⟨ad199, e199, hx199_0⟩ := Kd.at_int (Kd.R_reads' HO_4.out).2.2 x7_2 p199 q199
     cases e199
     replace p199 := eq_true p199
     replace q199 := eq_true q199
     have p200 : 0 ≤ (x7_2 : Int) := zT (by first | (with_reducible assumption) | assumption)
     have q200 : x7_2 < (t190.length : Int) := zT (by first | (with_reducible assumption) | assumption)
     obtain ⟨ad200, e200, hx200_0⟩ := Kd.at_int (Kd.R_reads' HO_4.out).2.2 x7_2 p200 q200
     obtain rfl : ad199 = ad200 := (by injection e200)
     replace p200 := eq_true p200
     replace q200 := eq_true q200
     obtain ⟨Ao20, co20, eo20⟩ := Kd.R_slice HO_5.out
     (first | subst eo20 | (injection eo20 with f1_ f2_ f3_; have f4_ := f1_.symm; have f5_ := f3_.symm; clear f1_ f2_ f3_; subst f4_; subst f5_))
     have p201 : 0 ≤ ((rd t190 x7_2) : Int) := zT (by first | (with_reducible assumption) | assumption)
     have q201 : (rd t190 x7_2) < (x5_2.length : Int) := zT (by first | (with_reducible assumption) | assumption)
     obtain ⟨ad201, e201, hx201_0⟩ := Kd.at_int (Kd.R_reads' HO_5.out).2.2 (rd t190 x7_2) p201 q201
     cases e201
     replace p201 := eq_true p201
     replace q201 := eq_true q201
     have p17 : 0 ≤ ((rd t190 x7_2) : Int) := zT (by first | (with_reducible assumption) | assumption)
     have q17 : ((rd t190 x7_2) : Int) < ((x5_2.length : Int) : Int) := zT (by first | (with_reducible assumption) | assumption)
     obtain ⟨go17, co17, eo17, gb17, gl17, cl17, HG17⟩ := Kd.R_form HO_5.out (by omega)
     (first | cases eo17 | (injection eo17 with ea_ en_ ec_; (first | subst ea_ | (injection ea_ with ea_; subst ea_)); subst ec_; clear en_))
     have GB17 := Aside0.mk gb17
     have GG17 := Aside0.mk HG17
     clear gb17 gl17 HG17
     (first | simp only [add_plain] at hx201_0 | skip)
     obtain ⟨hx17_0, hf17_0⟩ := Kd.R_celln 0 HO_5.out ((rd t190 x7_2) : Int) p17 q17
     replace p17 := eq_true p17
     replace q17 := eq_true q17
     have HP21 := Kd.R_putn HO_5.out ((rd t190 x7_2) : Int) (wrap64 (1 - (rd x5_2 (rd t190 x7_2))))
     rw [← Ny202.out] at HP21
     have HQ21 := Aside0.mk HP21
     clear HP21
     refine start_ (n := 15) (S := fun w' => w'.cell? (ad199.add (x7_2).toNat) = some (.int .i64 (rd t190 x7_2)) ∧ w'.cell? (ad199.add (x7_2).toNat) = some (.int .i64 (rd t190 x7_2)) ∧ w'.cell? ⟨go17, ((rd t190 x7_2)).toNat, none⟩ = some (.int .i64 (rd x5_2 (rd t190 x7_2)))) (ds := [14]) #[false, false, false, false, false, false, false, false, false, false, false, false, false, false, false] (by kernel_rfl) rfl rfl ⟨hx199_0, hx200_0, hx201_0⟩ (fun hHeld => ?_); refine with_tabW laws_FnLikeliest.tab10 laws_FnLikeliest.bits10 (fun HT_ HW_ => ?_)
     generalize wr.drew = w19 at HO_3 HO_4 HO_5 HB GG17 HQ21 hf17_0 hx17_0 hx199_0 hx200_0 hx201_0 hHeld ⊢
     refine pure_ (i := 0) (N := some 42) (v := ?_) (a' := ?_) #[true, false, false, false, false, false, false, false, false, false, false, false, false, false, false] rfl rfl (any_of HT_.out (by kernel_rfl)) (fun _ _ _ h => h) (Or.inl ⟨by rfl, ?_⟩) ?_ ?_
     rotate_left
     ·intro w'
      go_simp
      with_reducible rfl
     rotate_left
     ·simp only [Act.put, List.setIfInBounds_toArray, List.set_cons_zero, List.set_cons_succ, i64_w, i32_w]
      rfl
     refine pure_ (i := 1) (N := some 43) (v := ?_) (a' := ?_) #[true, true, false, false, false, false, false, false, false, false, false, false, false, false, false] rfl rfl (any_of HT_.out (by kernel_rfl)) (fun _ _ _ h => h) (Or.inl ⟨by rfl, ?_⟩) ?_ ?_
     rotate_left
     ·intro w'
      go_simp
      with_reducible rfl
     rotate_left
     ·simp only [Act.put, List.setIfInBounds_toArray, List.set_cons_zero, List.set_cons_succ, i64_w, i32_w]
      rfl
     refine pure_ (i := 2) (N := some 44) (v := ?_) (a' := ?_) #[true, true, true, false, false, false, false, false, false, false, false, false, false, false, false] rfl rfl (any_of HT_.out (by kernel_rfl)) (fun _ _ _ h => h) (Or.inl ⟨by rfl, ?_⟩) ?_ ?_
     rotate_left
     ·intro w'
      go_simp
      with_reducible rfl
     rotate_left
     ·simp only [Act.put, List.setIfInBounds_toArray, List.set_cons_zero, List.set_cons_succ, i64_w, i32_w]
      rfl
     refine pure_ (i := 3) (N := some 45) (v := ?_) (a' := ?_) #[true, true, true, true, false, false, false, false, false, false, false, false, false, false, false] rfl rfl (any_of HT_.out (by kernel_rfl)) (fun _ _ _ h => h) (Or.inl ⟨by rfl, ?_⟩) ?_ ?_
     rotate_left
     ·intro w'
      go_simp
      with_reducible rfl
     rotate_left
     ·simp only [Act.put, List.setIfInBounds_toArray, List.set_cons_zero, List.set_cons_succ, i64_w, i32_w]
      rfl
     refine pure_ (i := 5) (N := some 47) (v := ?_) (a' := ?_) #[true, true, true, true, false, true, false, false, false, false, false, false, false, false, false] rfl rfl (any_of HT_.out (by kernel_rfl)) (fun _ _ _ h => h) (Or.inl ⟨by rfl, ?_⟩) ?_ ?_
     rotate_left
     ·intro w'
      go_simp
      with_reducible rfl
     rotate_left
     ·simp only [Act.put, List.setIfInBounds_toArray, List.set_cons_zero, List.set_cons_succ, i64_w, i32_w]
      rfl
     refine pure_ (i := 6) (N := some 48) (v := ?_) (a' := ?_) #[true, true, true, true, false, true, true, false, false, false, false, false, false, false, false] rfl rfl (any_of HT_.out (by kernel_rfl)) (fun _ _ _ h => h) (Or.inl ⟨by rfl, ?_⟩) ?_ ?_
     rotate_left
     ·intro w'
      go_simp
      with_reducible rfl
     rotate_left
     ·simp only [Act.put, List.setIfInBounds_toArray, List.set_cons_zero, List.set_cons_succ, i64_w, i32_w]
      rfl
     refine pure_ (i := 7) (N := some 49) (v := ?_) (a' := ?_) #[true, true, true, true, false, true, true, true, false, false, false, false, false, false, false] rfl rfl (any_of HT_.out (by kernel_rfl)) (fun _ _ _ h => h) (Or.inl ⟨by rfl, ?_⟩) ?_ ?_
     rotate_left
     ·intro w'
      go_simp
      with_reducible rfl
     rotate_left
     ·simp only [Act.put, List.setIfInBounds_toArray, List.set_cons_zero, List.set_cons_succ, i64_w, i32_w]
      rfl
     refine pure_ (i := 8) (N := some 50) (v := ?_) (a' := ?_) #[true, true, true, true, false, true, true, true, true, false, false, false, false, false, false] rfl rfl (any_of HT_.out (by kernel_rfl)) (fun _ _ _ h => h) (Or.inl ⟨by rfl, ?_⟩) ?_ ?_
     rotate_left
     ·intro w'
      go_simp
      with_reducible rfl
     rotate_left
     ·simp only [Act.put, List.setIfInBounds_toArray, List.set_cons_zero, List.set_cons_succ, i64_w, i32_w]
      rfl
     refine take_ (i := 4) (N := some 46) (v := ?_) (a' := ?_) #[true, true, true, true, true, true, true, true, true, false, false, false, false, false, false] rfl rfl (take_ofW HT_.out HW_.out (by kernel_rfl)) (fun _ _ _ h => h) (Or.inl ⟨by rfl, ?_⟩) hHeld ?_ ?_
     rotate_left
     ·rintro w' ⟨s0, s1, s2⟩
      go_simp
      with_reducible rfl
     rotate_left
     ·simp only [Act.put, List.setIfInBounds_toArray, List.set_cons_zero, List.set_cons_succ, i64_w, i32_w]
      rfl
     refine take_ (i := 9) (N := some 51) (v := ?_) (a' := ?_) #[true, true, true, true, true, true, true, true, true, true, false, false, false, false, false] rfl rfl (take_ofW HT_.out HW_.out (by kernel_rfl)) (fun _ _ _ h => h) (Or.inl ⟨by rfl, ?_⟩) hHeld ?_ ?_
     rotate_left
     ·rintro w' ⟨s0, s1, s2⟩
      go_simp
      with_reducible rfl
     rotate_left
     ·simp only [Act.put, List.setIfInBounds_toArray, List.set_cons_zero, List.set_cons_succ, i64_w, i32_w]
      rfl
     refine pure_ (i := 10) (N := some 52) (v := ?_) (a' := ?_) #[true, true, true, true, true, true, true, true, true, true, true, false, false, false, false] rfl rfl (any_of HT_.out (by kernel_rfl)) (fun _ _ _ h => h) (Or.inl ⟨by rfl, ?_⟩) ?_ ?_
     rotate_left
     ·intro w'
      go_simp
      with_reducible rfl
     rotate_left
     ·simp only [Act.put, List.setIfInBounds_toArray, List.set_cons_zero, List.set_cons_succ, i64_w, i32_w]
      rfl
     refine take_ (i := 11) (N := some 53) (v := ?_) (a' := ?_) #[true, true, true, true, true, true, true, true, true, true, true, true, false, false, false] rfl rfl (take_ofW HT_.out HW_.out (by kernel_rfl)) (fun _ _ _ h => h) (Or.inl ⟨by rfl, ?_⟩) hHeld ?_ ?_
     rotate_left
     ·rintro w' ⟨s0, s1, s2⟩
      go_simp
      with_reducible rfl
     rotate_left
     ·simp only [Act.put, List.setIfInBounds_toArray, List.set_cons_zero, List.set_cons_succ, i64_w, i32_w]
      rfl
     refine pure_ (i := 12) (N := some 54) (v := ?_) (a' := ?_) #[true, true, true, true, true, true, true, true, true, true, true, true, true, false, false] rfl rfl (any_of HT_.out (by kernel_rfl)) (fun _ _ _ h => h) (Or.inl ⟨by rfl, ?_⟩) ?_ ?_
     rotate_left
     ·intro w'
      go_simp
      with_reducible rfl
     rotate_left
     ·simp only [Act.put, List.setIfInBounds_toArray, List.set_cons_zero, List.set_cons_succ, i64_w, i32_w]
      rfl
     refine pure_ (i := 13) (N := some 55) (v := ?_) (a' := ?_) #[true, true, true, true, true, true, true, true, true, true, true, true, true, true, false] rfl rfl (any_of HT_.out (by kernel_rfl)) (fun _ _ _ h => h) (Or.inl ⟨by rfl, ?_⟩) ?_ ?_
     rotate_left
     ·intro w'
      go_simp
      with_reducible rfl
     rotate_left
     ·simp only [Act.put, List.setIfInBounds_toArray, List.set_cons_zero, List.set_cons_succ, i64_w, i32_w]
      rfl
     refine last_ (i := 14) (N := none) #[true, true, true, true, true, true, true, true, true, true, true, true, true, true, true] rfl rfl (one_of HT_.out (by kernel_rfl)) (by decide) (fun K hK => ?_)
     refine skip_ (w1 := ?_) (by rfl) rfl ?_ ?_
     rotate_left
     ·go_simp
      rfl
     refine hK.out _ _ ?_
     clear hK K
     refine done_ (done_of HT_.out (by kernel_rfl)) ?_
     try go_wp2
     go_roundg k2
     case measure => have := HJ5.out; have := HK2.out; omega
     case rel => exact ⟨(y202), (wrap64 (x7_2 + 1)), (by first | rfl | (simp; done) | (simp [*]; done)), H', ⟨by have := HJ5.out; have := HK2.out; omega⟩, ⟨by (with_reducible repeat (first | apply zRa | apply zRn | apply zRd)); first | exact Kd.R_mono (Kd.R_far (p := ⟨go17, ((rd t190 x7_2) : Int).toNat, none⟩) (Kd.R_mono HO_3.out (fun k_ hk => (⟨hk, fun e_ => hk.2 (by rw [e_]; rfl)⟩ : _ ∧ k_ ≠ go17))) (fun _ hk => hk.2) (.int .i64 (wrap64 (1 - (rd x5_2 (rd t190 x7_2)))))) (fun _ hk => ⟨hk.1.1, hk.1.2⟩) | (subst_vars; exact Kd.R_mono (Kd.R_far (p := ⟨go17, ((rd t190 x7_2) : Int).toNat, none⟩) (Kd.R_mono HO_3.out (fun k_ hk => (⟨hk, fun e_ => hk.2 (by rw [e_]; rfl)⟩ : _ ∧ k_ ≠ go17))) (fun _ hk => hk.2) (.int .i64 (wrap64 (1 - (rd x5_2 (rd t190 x7_2)))))) (fun _ hk => ⟨hk.1.1, hk.1.2⟩))⟩, ⟨by (with_reducible repeat (first | apply zRa | apply zRn | apply zRd)); first | exact Kd.R_mono (Kd.R_far (p := ⟨go17, ((rd t190 x7_2) : Int).toNat, none⟩) (Kd.R_mono HO_4.out (fun k_ hk => (⟨hk, fun e_ => hk.2 (by rw [e_]; rfl)⟩ : _ ∧ k_ ≠ go17))) (fun _ hk => hk.2) (.int .i64 (wrap64 (1 - (rd x5_2 (rd t190 x7_2)))))) (fun _ hk => ⟨hk.1.1, hk.1.2⟩) | (subst_vars; exact Kd.R_mono (Kd.R_far (p := ⟨go17, ((rd t190 x7_2) : Int).toNat, none⟩) (Kd.R_mono HO_4.out (fun k_ hk => (⟨hk, fun e_ => hk.2 (by rw [e_]; rfl)⟩ : _ ∧ k_ ≠ go17))) (fun _ hk => hk.2) (.int .i64 (wrap64 (1 - (rd x5_2 (rd t190 x7_2)))))) (fun _ hk => ⟨hk.1.1, hk.1.2⟩))⟩, ⟨by (with_reducible repeat (first | apply zRa | apply zRn | apply zRd)); first | exact HQ21.out | (subst_vars; exact HQ21.out)⟩, ⟨by repeat (first | (with_reducible first | exact HB.out | apply zBa | apply zBn | apply zBd | refine zBs ?_ GB17.out) | exact HB.out)⟩⟩

/-- THE ONE PURE STATEMENT of laws_FnLikeliest: yours. -/
def laws_FnLikeliest.Pure : Prop := ∀ (l0 : List Int), l0.length ≤ maxLen → l0.length * 1 ≤ 140737488351232 → (∀ x ∈ l0, (Lit.int .u8 x).wf = true) → ∃ k, laws_FnLikeliest.f k l0 = some true
theorem laws_FnLikeliest.walk (P : laws_FnLikeliest.Pure) (a0 : Option Addr) (len0 cap0 : Nat) (z0 : List Int) (w : World) (w0 : (a0 = none ∧ len0 = 0 ∧ cap0 = 0 ∧ z0 = []) ∨ ∃ x, a0 = some x ∧ len0 ≤ cap0 ∧ cap0 ≤ maxLen ∧ z0.length = cap0 ∧ (∀ i, i < z0.length → w.cell? (x.add i) = some (.int .u8 (z0.getD i 0))) ∧ ∀ n ∈ z0, (Lit.int .u8 n).wf = true) (y0 : len0 * 1 ≤ 140737488351232) :
 Calls Try.prog 3 #[.slice a0 len0 cap0] w fun e w' => e = .returned (.bool true) ∧ Below w.heap.size w w' := by
 obtain ⟨l0, rfl, hr0, hm0, hw0, hc0⟩ := ReadsInt.ofRowC w0
 obtain ⟨k, h⟩ := P l0 hm0 y0 hw0
 refine (laws_FnLikeliest.calls k _ _ l0 true w (Kd.C_of_reads (d := (0 : Int)) (h1 := fun _ => rfl) hr0) hc0 rfl h).mono ?_
 rintro e w' ⟨rfl, hd⟩
 exact ⟨rfl, hd⟩

end Go.Proofs.Ytoggbgkpeigfmaa.PFnLikeliest
