-- Written by a turned copy of the print (see the notes of this repo): plain functions and their walks. Lean checks it.
import Derived.Test.YtieadaglkibjbaaPFnExactOpenFramex0
import Derived.Test.YtieadaglkibjbaaPFnExactOpenFramex6
import Derived.Test.YtieadaglkibjbaaPFnExactOpenFramex7
import Derived.Test.YtieadaglkibjbaaPFnExactOpenFramex9
import Derived.Test.YtieadaglkibjbaaPFnExactOpenFramex10
import Derived.Test.YtieadaglkibjbaaPFnExactOpenFramex11
namespace Go.Proofs.Ytieadaglkibjbaa.PFnExactOpenFrame
open Go.RowKit Go.Proofs.YtieadaglkibjbaaW.PrintWords Go.Proofs.YtieadaglkibjbaaW.PrintLast Go.Proofs.YtieadaglkibjbaaW.PrintMore
attribute [local go_sem] max2_int min2_int max_two min_two max_three min_three max_four min_four   -- for this text's walks alone
set_option linter.unusedVariables false
set_option linter.unusedSimpArgs false

/-! ### spec_OpenFrame: function 43 -/
mutual
def spec_OpenFrame.j0 : Nat → List Int → Int → List Int → Bool → Option (List Int × Int × Int)
 | 0, _, _, _, _ => none
 | k + 1, x0, x1, x7, x33 => if x33 = true then (some (x7, x1, 1)) else (if 0 ≤ (wrap64 (x1 + 1)) then (if (wrap64 (x1 + 1)) < (x0.length : Int) then (if 0 ≤ (wrap64 (x1 + 2)) then (if (wrap64 (x1 + 2)) < (x0.length : Int) then (if 0 ≤ x1 then (if x1 < (x0.length : Int) then (if (rd x0 x1) = 70 then (if (wrap64 ((wrap64 (rd x0 (wrap64 (x1 + 1)))) + 1)) > 128 then (spec_OpenFrame.j1 k x0 x1 x7 (wrap64 ((wrap64 (rd x0 (wrap64 (x1 + 1)))) + 1)) (wrap64 (Int.tdiv (wrap64 (rd x0 (wrap64 (x1 + 2)))) 32)) (Int.tmod (wrap64 (rd x0 (wrap64 (x1 + 2)))) 32) true) else (if (wrap64 (Int.tdiv (wrap64 (rd x0 (wrap64 (x1 + 2)))) 32)) > 3 then (spec_OpenFrame.j1 k x0 x1 x7 (wrap64 ((wrap64 (rd x0 (wrap64 (x1 + 1)))) + 1)) (wrap64 (Int.tdiv (wrap64 (rd x0 (wrap64 (x1 + 2)))) 32)) (Int.tmod (wrap64 (rd x0 (wrap64 (x1 + 2)))) 32) true) else (spec_OpenFrame.j1 k x0 x1 x7 (wrap64 ((wrap64 (rd x0 (wrap64 (x1 + 1)))) + 1)) (wrap64 (Int.tdiv (wrap64 (rd x0 (wrap64 (x1 + 2)))) 32)) (Int.tmod (wrap64 (rd x0 (wrap64 (x1 + 2)))) 32) (decide ((Int.tmod (wrap64 (rd x0 (wrap64 (x1 + 2)))) 32) > 30))))) else (spec_OpenFrame.j1 k x0 x1 x7 (wrap64 ((wrap64 (rd x0 (wrap64 (x1 + 1)))) + 1)) (wrap64 (Int.tdiv (wrap64 (rd x0 (wrap64 (x1 + 2)))) 32)) (Int.tmod (wrap64 (rd x0 (wrap64 (x1 + 2)))) 32) true)) else (none)) else (none)) else (none)) else (none)) else (none)) else (none))
def spec_OpenFrame.j1 : Nat → List Int → Int → List Int → Int → Int → Int → Bool → Option (List Int × Int × Int)
 | 0, _, _, _, _, _, _, _ => none
 | k + 1, x0, x1, x7, x8, x9, x10, x73 => if x73 = true then (some (x7, x1, 2)) else (spec_OpenFrame.l0 k x0 x1 x7 x8 x9 x10 (([] : List Int)) (wrap64 (8 * (wrap64 (x1 + 3)))))
def spec_OpenFrame.l0 : Nat → List Int → Int → List Int → Int → Int → Int → List Int → Int → Option (List Int × Int × Int)
 | 0, _, _, _, _, _, _, _, _ => none
 | k + 1, x0, x1, x7, x8, x9, x10, x11, x12 => if x12 < (wrap64 (8 * (x0.length : Int))) then (if 0 ≤ (wrap64 (Int.tdiv x12 8)) then (if (wrap64 (Int.tdiv x12 8)) < (x0.length : Int) then (if 0 ≤ (IntKind.u64.wrap (wrap64 (7 - (Int.tmod x12 8)))) then (if x11.length < 17592186044416 then (spec_OpenFrame.l0 k x0 x1 x7 x8 x9 x10 (x11 ++ [Int.tmod (wrap64 (shr .u8 (rd x0 (wrap64 (Int.tdiv x12 8))) (IntKind.u64.wrap (wrap64 (7 - (Int.tmod x12 8)))))) 2]) (wrap64 (x12 + 1))) else (none)) else (none)) else (none)) else (none)) else ((spec_UnRice.f k x10 x11 x8).bind fun bt375 => (if bt375.2.2 = true then (if (wrap64 ((x0.length : Int) - (wrap64 ((wrap64 (x1 + 3)) + (wrap64 (Int.tdiv (wrap64 (bt375.2.1 + 7)) 8)))))) < 2 then (some (x7, x1, 1)) else (if 0 ≤ x1 then (if x1 ≤ (wrap64 ((wrap64 (x1 + 3)) + (wrap64 (Int.tdiv (wrap64 (bt375.2.1 + 7)) 8)))) then (if (wrap64 ((wrap64 (x1 + 3)) + (wrap64 (Int.tdiv (wrap64 (bt375.2.1 + 7)) 8)))) ≤ (x0.length : Int) then ((spec_Crc16.f k ((x0.take ((wrap64 ((wrap64 (x1 + 3)) + (wrap64 (Int.tdiv (wrap64 (bt375.2.1 + 7)) 8)))) : Int).toNat).drop (x1 : Int).toNat)).bind fun t381 => (if 0 ≤ (wrap64 ((wrap64 (x1 + 3)) + (wrap64 (Int.tdiv (wrap64 (bt375.2.1 + 7)) 8)))) then (if (wrap64 ((wrap64 (x1 + 3)) + (wrap64 (Int.tdiv (wrap64 (bt375.2.1 + 7)) 8)))) < (x0.length : Int) then (if 0 ≤ (wrap64 ((wrap64 ((wrap64 (x1 + 3)) + (wrap64 (Int.tdiv (wrap64 (bt375.2.1 + 7)) 8)))) + 1)) then (if (wrap64 ((wrap64 ((wrap64 (x1 + 3)) + (wrap64 (Int.tdiv (wrap64 (bt375.2.1 + 7)) 8)))) + 1)) < (x0.length : Int) then (if t381 = (wrap64 ((wrap64 (256 * (wrap64 (rd x0 (wrap64 ((wrap64 (x1 + 3)) + (wrap64 (Int.tdiv (wrap64 (bt375.2.1 + 7)) 8)))))))) + (wrap64 (rd x0 (wrap64 ((wrap64 ((wrap64 (x1 + 3)) + (wrap64 (Int.tdiv (wrap64 (bt375.2.1 + 7)) 8)))) + 1)))))) then ((spec_UnGuess.f k x9 bt375.1).bind fun bt384 => (if bt384.2 = true then ((spec_PackFrame.f k bt384.1).bind fun bt388 => (if x1 ≤ (wrap64 ((wrap64 ((wrap64 (x1 + 3)) + (wrap64 (Int.tdiv (wrap64 (bt375.2.1 + 7)) 8)))) + 2)) then (if (wrap64 ((wrap64 ((wrap64 (x1 + 3)) + (wrap64 (Int.tdiv (wrap64 (bt375.2.1 + 7)) 8)))) + 2)) ≤ (x0.length : Int) then (if (strOfNums bt388.1).toList = (strOfNums ((x0.take ((wrap64 ((wrap64 ((wrap64 (x1 + 3)) + (wrap64 (Int.tdiv (wrap64 (bt375.2.1 + 7)) 8)))) + 2)) : Int).toNat).drop (x1 : Int).toNat)).toList then (some (bt384.1, wrap64 ((wrap64 ((wrap64 (x1 + 3)) + (wrap64 (Int.tdiv (wrap64 (bt375.2.1 + 7)) 8)))) + 2), 0)) else (some (x7, x1, 5))) else (none)) else (none))) else (some (x7, x1, 5)))) else (some (x7, x1, 4))) else (none)) else (none)) else (none)) else (none))) else (none)) else (none)) else (none))) else (some (x7, x1, 3))))
end
def spec_OpenFrame.f (k : Nat) (l0 : List Int) (a1 : Int) : Option (List Int × Int × Int) := (some (([] : List Int) : List Int)).bind fun y360 => ((spec_l1In.f a1 0 (l0.length : Int)).bind fun t363 => (if t363 = true then (spec_OpenFrame.j0 k l0 a1 y360 (decide ((wrap64 ((l0.length : Int) - a1)) < 3))) else (spec_OpenFrame.j0 k l0 a1 y360 true)))
theorem spec_OpenFrame.mono_l : ∀ k, (∀ y0 y1 y2 y3, LeO (spec_OpenFrame.j0 k y0 y1 y2 y3) (spec_OpenFrame.j0 (k + 1) y0 y1 y2 y3)) ∧ (∀ y0 y1 y2 y3 y4 y5 y6, LeO (spec_OpenFrame.j1 k y0 y1 y2 y3 y4 y5 y6) (spec_OpenFrame.j1 (k + 1) y0 y1 y2 y3 y4 y5 y6)) ∧ (∀ y0 y1 y2 y3 y4 y5 y6 y7, LeO (spec_OpenFrame.l0 k y0 y1 y2 y3 y4 y5 y6 y7) (spec_OpenFrame.l0 (k + 1) y0 y1 y2 y3 y4 y5 y6 y7))
 | 0 => ⟨fun _ _ _ _ r h => by simp [spec_OpenFrame.j0] at h, fun _ _ _ _ _ _ _ r h => by simp [spec_OpenFrame.j1] at h, fun _ _ _ _ _ _ _ _ r h => by simp [spec_OpenFrame.l0] at h⟩
 | k + 1 => by
  obtain ⟨ih0, ih1, ih2⟩ := spec_OpenFrame.mono_l k
  refine ⟨?_, ?_, ?_⟩
  ·intro y0 y1 y2 y3
   unfold spec_OpenFrame.j0
   repeat' first
   | (with_reducible exact ih0 _ _ _ _)
   | (with_reducible exact ih1 _ _ _ _ _ _ _)
   | (with_reducible exact ih2 _ _ _ _ _ _ _ _)
   | (with_reducible exact spec_Crc16.mono _ _)
   | (with_reducible exact spec_PackFrame.mono _ _)
   | (with_reducible exact spec_UnGuess.mono _ _ _)
   | (with_reducible exact spec_UnRice.mono _ _ _ _)
   | (with_reducible exact LeO.refl _)
   | (with_reducible exact LeO.none _)
   | (with_reducible refine LeO.ite ?_ ?_)
   | (with_reducible refine LeO.bind ?_ (fun _ => ?_))
   | exact ih0 _ _ _ _
   | exact ih1 _ _ _ _ _ _ _
   | exact ih2 _ _ _ _ _ _ _ _
   | exact spec_Crc16.mono _ _
   | exact spec_PackFrame.mono _ _
   | exact spec_UnGuess.mono _ _ _
   | exact spec_UnRice.mono _ _ _ _
   | exact LeO.none _
   | refine LeO.ite ?_ ?_
   | refine LeO.bind ?_ (fun _ => ?_)
  ·intro y0 y1 y2 y3 y4 y5 y6
   unfold spec_OpenFrame.j1
   repeat' first
   | (with_reducible exact ih0 _ _ _ _)
   | (with_reducible exact ih1 _ _ _ _ _ _ _)
   | (with_reducible exact ih2 _ _ _ _ _ _ _ _)
   | (with_reducible exact spec_Crc16.mono _ _)
   | (with_reducible exact spec_PackFrame.mono _ _)
   | (with_reducible exact spec_UnGuess.mono _ _ _)
   | (with_reducible exact spec_UnRice.mono _ _ _ _)
   | (with_reducible exact LeO.refl _)
   | (with_reducible exact LeO.none _)
   | (with_reducible refine LeO.ite ?_ ?_)
   | (with_reducible refine LeO.bind ?_ (fun _ => ?_))
   | exact ih0 _ _ _ _
   | exact ih1 _ _ _ _ _ _ _
   | exact ih2 _ _ _ _ _ _ _ _
   | exact spec_Crc16.mono _ _
   | exact spec_PackFrame.mono _ _
   | exact spec_UnGuess.mono _ _ _
   | exact spec_UnRice.mono _ _ _ _
   | exact LeO.none _
   | refine LeO.ite ?_ ?_
   | refine LeO.bind ?_ (fun _ => ?_)
  ·intro y0 y1 y2 y3 y4 y5 y6 y7
   unfold spec_OpenFrame.l0
   repeat' first
   | (with_reducible exact ih0 _ _ _ _)
   | (with_reducible exact ih1 _ _ _ _ _ _ _)
   | (with_reducible exact ih2 _ _ _ _ _ _ _ _)
   | (with_reducible exact spec_Crc16.mono _ _)
   | (with_reducible exact spec_PackFrame.mono _ _)
   | (with_reducible exact spec_UnGuess.mono _ _ _)
   | (with_reducible exact spec_UnRice.mono _ _ _ _)
   | (with_reducible exact LeO.refl _)
   | (with_reducible exact LeO.none _)
   | (with_reducible refine LeO.ite ?_ ?_)
   | (with_reducible refine LeO.bind ?_ (fun _ => ?_))
   | exact ih0 _ _ _ _
   | exact ih1 _ _ _ _ _ _ _
   | exact ih2 _ _ _ _ _ _ _ _
   | exact spec_Crc16.mono _ _
   | exact spec_PackFrame.mono _ _
   | exact spec_UnGuess.mono _ _ _
   | exact spec_UnRice.mono _ _ _ _
   | exact LeO.none _
   | refine LeO.ite ?_ ?_
   | refine LeO.bind ?_ (fun _ => ?_)
theorem spec_OpenFrame.mono : ∀ a0 a1 k, LeO (spec_OpenFrame.f k a0 a1) (spec_OpenFrame.f (k + 1) a0 a1) := by
 intro a0 a1 k
 obtain ⟨ih0, ih1, ih2⟩ := spec_OpenFrame.mono_l k
 unfold spec_OpenFrame.f
 repeat' first
  | (with_reducible exact ih0 _ _ _ _)
  | (with_reducible exact ih1 _ _ _ _ _ _ _)
  | (with_reducible exact ih2 _ _ _ _ _ _ _ _)
  | (with_reducible exact spec_Crc16.mono _ _)
  | (with_reducible exact spec_PackFrame.mono _ _)
  | (with_reducible exact spec_UnGuess.mono _ _ _)
  | (with_reducible exact spec_UnRice.mono _ _ _ _)
  | (with_reducible exact LeO.refl _)
  | (with_reducible exact LeO.none _)
  | (with_reducible refine LeO.ite ?_ ?_)
  | (with_reducible refine LeO.bind ?_ (fun _ => ?_))
  | exact ih0 _ _ _ _
  | exact ih1 _ _ _ _ _ _ _
  | exact ih2 _ _ _ _ _ _ _ _
  | exact spec_Crc16.mono _ _
  | exact spec_PackFrame.mono _ _
  | exact spec_UnGuess.mono _ _ _
  | exact spec_UnRice.mono _ _ _ _
  | exact LeO.none _
  | refine LeO.ite ?_ ?_
  | refine LeO.bind ?_ (fun _ => ?_)
set_option maxHeartbeats 8000000 in
set_option maxRecDepth 100000 in
theorem spec_OpenFrame.calls (k : Nat) (A0 : Option Addr) (c0 : Nat) (l0 : List Int) (a1 : Int) (r1 : List Int) (r2 : Int) (r3 : Int) (w : World) (hr0 : Kd.C (Kd.int .u8) w A0 l0.length l0) (hc0 : l0.length ≤ c0) (h : spec_OpenFrame.f k l0 a1 = some (r1, r2, r3)) :
 Calls Try.prog 43 #[.slice A0 l0.length c0, .int .i64 a1] w fun e w' => ∃ v0_ : Value, e = .returned (.tuple #[v0_, .int .i64 r2, .int .i64 r3]) ∧ Kd.R (Kd.int .i64) 3 w' w.heap.size (fun _ => True) v0_ r1 ∧ Below w.heap.size w w' := by
 have HR0 := Aside0.mk hr0
 have HC0 := Aside0.mk hc0
 clear hr0 hc0
 have HB := Aside0.mk (Below.refl w.heap.size w)
 have H : ((some (([] : List Int) : List Int)).bind fun y360 => ((spec_l1In.f a1 0 (l0.length : Int)).bind fun t363 => (if t363 = true then (spec_OpenFrame.j0 k l0 a1 y360 (decide ((wrap64 ((l0.length : Int) - a1)) < 3))) else (spec_OpenFrame.j0 k l0 a1 y360 true)))) = some (r1, r2, r3) := h
 clear h
 obtain ⟨y360, hy360⟩ : ∃ y_ : List Int, y_ = (([] : List Int)) := ⟨_, rfl⟩
 replace H : ((spec_l1In.f a1 0 (l0.length : Int)).bind fun t363 => (if t363 = true then (spec_OpenFrame.j0 k l0 a1 y360 (decide ((wrap64 ((l0.length : Int) - a1)) < 3))) else (spec_OpenFrame.j0 k l0 a1 y360 true))) = some (r1, r2, r3) := by first | (rw [hy360]; with_reducible exact H) | (have H2_ := (Option.bind_some _ _).symm.trans H; rw [hy360]; with_reducible exact H2_) | (have H2_ := (Option.bind_some _ _).symm.trans H; with_reducible exact H2_) | with_reducible exact H | (rw [hy360]; exact H) | exact H
 have Ny360 := Aside0.mk hy360
 clear hy360
 have HC3 := Aside0.mk H
 clear H
 go_enter Try.func43, Try.ntmps43
 go_upto_region 2 with (first | ((with_reducible refine gate_dst (N := 21) rfl ?_); (try (refine gate_guard (by rfl) ?_; dsimp only)); refine Kd.R_lit (Kd.int .i64) _ 3 ?hg (N := 21) ?hd (xs := ([] : List Int)) (inner := []) (ok := fun _ => True) (okp := fun _ => True) ?hr ?hp (fun _ hk => hk) trivial (Below.refl _ _) (Nat.le_refl _) (by simp) ?_; (case hd => rfl); (case hg => rfl); (case hr => first | (go_simp; done) | (go_simp; rfl)); (case hp => exact (Reps.none _ _)); intro v361 w4 ho5 hb hg_ hnew_; clear hg_ hnew_; (first | rw [← Ny360.out] at ho5 | (simp only [Int.reduceToNat] at ho5; rw [← Ny360.out] at ho5)); have n0_ := Aside0.mk (Kd.R_lower ho5 (below_size (by repeat (first | (with_reducible first | exact HB.out | apply zBa | apply zBn | apply zBd) | exact HB.out)))); have n1_ := Aside0.mk (below_step (by repeat (first | (with_reducible first | exact HB.out | apply zBa | apply zBn | apply zBd) | exact HB.out)) hb); clear HB; have HO362 := n0_; have HB := n1_; clear n0_ n1_; clear hb ho5))
 repeat (go_quiet (first | ((with_reducible refine gate_dst (N := 21) rfl ?_); (try (refine gate_guard (by rfl) ?_; dsimp only)); refine Kd.R_lit (Kd.int .i64) _ 3 ?hg (N := 21) ?hd (xs := ([] : List Int)) (inner := []) (ok := fun _ => True) (okp := fun _ => True) ?hr ?hp (fun _ hk => hk) trivial (Below.refl _ _) (Nat.le_refl _) (by simp) ?_; (case hd => rfl); (case hg => rfl); (case hr => first | (go_simp; done) | (go_simp; rfl)); (case hp => exact (Reps.none _ _)); intro v361 w4 ho5 hb hg_ hnew_; clear hg_ hnew_; (first | rw [← Ny360.out] at ho5 | (simp only [Int.reduceToNat] at ho5; rw [← Ny360.out] at ho5)); have n0_ := Aside0.mk (Kd.R_lower ho5 (below_size (by repeat (first | (with_reducible first | exact HB.out | apply zBa | apply zBn | apply zBd) | exact HB.out)))); have n1_ := Aside0.mk (below_step (by repeat (first | (with_reducible first | exact HB.out | apply zBa | apply zBn | apply zBd) | exact HB.out)) hb); clear HB; have HO362 := n0_; have HB := n1_; clear n0_ n1_; clear hb ho5)); go_upto_region 2 with (first | ((with_reducible refine gate_dst (N := 21) rfl ?_); (try (refine gate_guard (by rfl) ?_; dsimp only)); refine Kd.R_lit (Kd.int .i64) _ 3 ?hg (N := 21) ?hd (xs := ([] : List Int)) (inner := []) (ok := fun _ => True) (okp := fun _ => True) ?hr ?hp (fun _ hk => hk) trivial (Below.refl _ _) (Nat.le_refl _) (by simp) ?_; (case hd => rfl); (case hg => rfl); (case hr => first | (go_simp; done) | (go_simp; rfl)); (case hp => exact (Reps.none _ _)); intro v361 w4 ho5 hb hg_ hnew_; clear hg_ hnew_; (first | rw [← Ny360.out] at ho5 | (simp only [Int.reduceToNat] at ho5; rw [← Ny360.out] at ho5)); have n0_ := Aside0.mk (Kd.R_lower ho5 (below_size (by repeat (first | (with_reducible first | exact HB.out | apply zBa | apply zBn | apply zBd) | exact HB.out)))); have n1_ := Aside0.mk (below_step (by repeat (first | (with_reducible first | exact HB.out | apply zBa | apply zBn | apply zBd) | exact HB.out)) hb); clear HB; have HO362 := n0_; have HB := n1_; clear n0_ n1_; clear hb ho5)))
 (try simp only [Act.put, List.setIfInBounds_toArray, List.set_cons_zero, List.set_cons_succ])
 go_cut [33] (fun v33 wc => ∃ (kq : Nat) (x33_2 : Bool), v33 = .bool x33_2 ∧ Aside0 (spec_OpenFrame.j0 kq l0 a1 y360 x33_2 = some (r1, r2, r3)) ∧ Aside0 (kq ≤ k) ∧ Aside0 (Kd.R (Kd.int .i64) 3 wc w.heap.size (fun _ => True) v361 y360) ∧ Aside0 (Below w.heap.size w wc))
 case first =>
  have H := HC3.out
  clear HC3
  replace H := Option.bind_eq_some_iff.mp H
  obtain ⟨t363, A60, H⟩ := H
  replace H : (if t363 = true then (spec_OpenFrame.j0 k l0 a1 y360 (decide ((wrap64 ((l0.length : Int) - a1)) < 3))) else (spec_OpenFrame.j0 k l0 a1 y360 true)) = some (r1, r2, r3) := H
  have A6 := Aside0.mk A60
  clear A60
  by_cases c7 : t363 = true
  case neg =>
   replace c7 := Bool.eq_false_iff.mpr c7
   subst c7
   have H1 : (spec_OpenFrame.j0 k l0 a1 y360 true) = some (r1, r2, r3) := by rw [if_neg (show ¬ (false = true) by decide)] at H; exact H
   clear H
   have H := H1
   clear H1
   have H' := Aside0.mk H
   clear H
   go_wp2_with (first | (go_at_call 58; (with_reducible refine (spec_l1In.calls a1 0 (l0.length : Int) false _ A6.out).mono ?_); rintro e w' ⟨rfl, ⟨nd, rfl⟩⟩; (try first | exact ⟨rfl, _, zD _ _ _⟩ | exact ⟨rfl, _, Eq.trans (zD _ _ _) (congrArg (World.drewN _) (Nat.add_assoc _ _ _))⟩)))
   repeat (go_quiet (first | (go_at_call 58; (with_reducible refine (spec_l1In.calls a1 0 (l0.length : Int) false _ A6.out).mono ?_); rintro e w' ⟨rfl, ⟨nd, rfl⟩⟩; (try first | exact ⟨rfl, _, zD _ _ _⟩ | exact ⟨rfl, _, Eq.trans (zD _ _ _) (congrArg (World.drewN _) (Nat.add_assoc _ _ _))⟩))); try go_wp2_with (first | (go_at_call 58; (with_reducible refine (spec_l1In.calls a1 0 (l0.length : Int) false _ A6.out).mono ?_); rintro e w' ⟨rfl, ⟨nd, rfl⟩⟩; (try first | exact ⟨rfl, _, zD _ _ _⟩ | exact ⟨rfl, _, Eq.trans (zD _ _ _) (congrArg (World.drewN _) (Nat.add_assoc _ _ _))⟩))))
   go_meet
   case rel => exact ⟨_, (true), (by first | rfl | (simp; done) | (simp [*]; done)), H', ⟨by first | omega | exact Nat.le_refl _⟩, ⟨by (with_reducible repeat (first | apply zRa | apply zRn | apply zRd)); first | exact HO362.out | (subst_vars; exact HO362.out)⟩, ⟨by repeat (first | (with_reducible first | exact HB.out | apply zBa | apply zBn | apply zBd) | exact HB.out)⟩⟩
  subst c7
  have H1 : (spec_OpenFrame.j0 k l0 a1 y360 (decide ((wrap64 ((l0.length : Int) - a1)) < 3))) = some (r1, r2, r3) := by rw [if_pos rfl] at H; exact H
  clear H
  have H := H1
  clear H1
  have H' := Aside0.mk H
  clear H
  go_wp2_with (first | (go_at_call 58; (with_reducible refine (spec_l1In.calls a1 0 (l0.length : Int) true _ A6.out).mono ?_); rintro e w' ⟨rfl, ⟨nd, rfl⟩⟩; (try first | exact ⟨rfl, _, zD _ _ _⟩ | exact ⟨rfl, _, Eq.trans (zD _ _ _) (congrArg (World.drewN _) (Nat.add_assoc _ _ _))⟩)))
  repeat (go_quiet (first | (go_at_call 58; (with_reducible refine (spec_l1In.calls a1 0 (l0.length : Int) true _ A6.out).mono ?_); rintro e w' ⟨rfl, ⟨nd, rfl⟩⟩; (try first | exact ⟨rfl, _, zD _ _ _⟩ | exact ⟨rfl, _, Eq.trans (zD _ _ _) (congrArg (World.drewN _) (Nat.add_assoc _ _ _))⟩))); try go_wp2_with (first | (go_at_call 58; (with_reducible refine (spec_l1In.calls a1 0 (l0.length : Int) true _ A6.out).mono ?_); rintro e w' ⟨rfl, ⟨nd, rfl⟩⟩; (try first | exact ⟨rfl, _, zD _ _ _⟩ | exact ⟨rfl, _, Eq.trans (zD _ _ _) (congrArg (World.drewN _) (Nat.add_assoc _ _ _))⟩))))
  go_meet
  case rel => exact ⟨_, (decide ((wrap64 ((l0.length : Int) - a1)) < 3)), (by first | rfl | (simp; done) | (simp [*]; done)), H', ⟨by first | omega | exact Nat.le_refl _⟩, ⟨by (with_reducible repeat (first | apply zRa | apply zRn | apply zRd)); first | exact HO362.out | (subst_vars; exact HO362.out)⟩, ⟨by repeat (first | (with_reducible first | exact HB.out | apply zBa | apply zBn | apply zBd) | exact HB.out)⟩⟩
 case rest =>
  clear HC3
  try clear p2
  try clear c4
  try clear p6
  try clear c7
  obtain ⟨kq, x33_2, rfl, HA, HJ2, HO_7, HB⟩ := hcut
  cases kq with
  | zero => exact absurd HA.out (by simp [spec_OpenFrame.j0])
  | succ kj2 =>
   have H := HA.out
   clear HA
   simp only [spec_OpenFrame.j0] at H
   by_cases c8 : x33_2 = true
   case pos =>
    subst c8
    have H1 : (some (y360, a1, 1)) = some (r1, r2, r3) := by rw [if_pos rfl] at H; exact H
    clear H
    have H := H1
    clear H1
    simp only [Option.some.injEq, Prod.mk.injEq] at H
    obtain ⟨rfl, rfl, rfl⟩ := H
    go_wp2
    repeat (go_quiet (fail); try go_wp2)
    go_ret3
    exact ⟨_, by first | rfl | (simp [errW_none, errW_some] <;> rfl) | (simp [*, errW_none, errW_some] <;> rfl), by (with_reducible repeat (first | apply zRa | apply zRn | apply zRd)); first | exact HO_7.out | (subst_vars; exact HO_7.out), by repeat (first | (with_reducible first | exact HB.out | apply zBa | apply zBn | apply zBd) | exact HB.out)⟩
   replace c8 := Bool.eq_false_iff.mpr c8
   subst c8
   have H1 : (if 0 ≤ (wrap64 (a1 + 1)) then (if (wrap64 (a1 + 1)) < (l0.length : Int) then (if 0 ≤ (wrap64 (a1 + 2)) then (if (wrap64 (a1 + 2)) < (l0.length : Int) then (if 0 ≤ a1 then (if a1 < (l0.length : Int) then (if (rd l0 a1) = 70 then (if (wrap64 ((wrap64 (rd l0 (wrap64 (a1 + 1)))) + 1)) > 128 then (spec_OpenFrame.j1 kj2 l0 a1 y360 (wrap64 ((wrap64 (rd l0 (wrap64 (a1 + 1)))) + 1)) (wrap64 (Int.tdiv (wrap64 (rd l0 (wrap64 (a1 + 2)))) 32)) (Int.tmod (wrap64 (rd l0 (wrap64 (a1 + 2)))) 32) true) else (if (wrap64 (Int.tdiv (wrap64 (rd l0 (wrap64 (a1 + 2)))) 32)) > 3 then (spec_OpenFrame.j1 kj2 l0 a1 y360 (wrap64 ((wrap64 (rd l0 (wrap64 (a1 + 1)))) + 1)) (wrap64 (Int.tdiv (wrap64 (rd l0 (wrap64 (a1 + 2)))) 32)) (Int.tmod (wrap64 (rd l0 (wrap64 (a1 + 2)))) 32) true) else (spec_OpenFrame.j1 kj2 l0 a1 y360 (wrap64 ((wrap64 (rd l0 (wrap64 (a1 + 1)))) + 1)) (wrap64 (Int.tdiv (wrap64 (rd l0 (wrap64 (a1 + 2)))) 32)) (Int.tmod (wrap64 (rd l0 (wrap64 (a1 + 2)))) 32) (decide ((Int.tmod (wrap64 (rd l0 (wrap64 (a1 + 2)))) 32) > 30))))) else (spec_OpenFrame.j1 kj2 l0 a1 y360 (wrap64 ((wrap64 (rd l0 (wrap64 (a1 + 1)))) + 1)) (wrap64 (Int.tdiv (wrap64 (rd l0 (wrap64 (a1 + 2)))) 32)) (Int.tmod (wrap64 (rd l0 (wrap64 (a1 + 2)))) 32) true)) else (none)) else (none)) else (none)) else (none)) else (none)) else (none)) = some (r1, r2, r3) := by rw [if_neg (show ¬ (false = true) by decide)] at H; exact H
   clear H
   have H := H1
   clear H1
   obtain ⟨ji9, hji9⟩ : ∃ j_ : Int, (wrap64 (a1 + 1)) = j_ := ⟨_, rfl⟩
   replace H : (if 0 ≤ (ji9) then (if (ji9) < (l0.length : Int) then (if 0 ≤ (wrap64 (a1 + 2)) then (if (wrap64 (a1 + 2)) < (l0.length : Int) then (if 0 ≤ a1 then (if a1 < (l0.length : Int) then (if (rd l0 a1) = 70 then (if (wrap64 ((wrap64 (rd l0 (ji9))) + 1)) > 128 then (spec_OpenFrame.j1 kj2 l0 a1 y360 (wrap64 ((wrap64 (rd l0 (ji9))) + 1)) (wrap64 (Int.tdiv (wrap64 (rd l0 (wrap64 (a1 + 2)))) 32)) (Int.tmod (wrap64 (rd l0 (wrap64 (a1 + 2)))) 32) true) else (if (wrap64 (Int.tdiv (wrap64 (rd l0 (wrap64 (a1 + 2)))) 32)) > 3 then (spec_OpenFrame.j1 kj2 l0 a1 y360 (wrap64 ((wrap64 (rd l0 (ji9))) + 1)) (wrap64 (Int.tdiv (wrap64 (rd l0 (wrap64 (a1 + 2)))) 32)) (Int.tmod (wrap64 (rd l0 (wrap64 (a1 + 2)))) 32) true) else (spec_OpenFrame.j1 kj2 l0 a1 y360 (wrap64 ((wrap64 (rd l0 (ji9))) + 1)) (wrap64 (Int.tdiv (wrap64 (rd l0 (wrap64 (a1 + 2)))) 32)) (Int.tmod (wrap64 (rd l0 (wrap64 (a1 + 2)))) 32) (decide ((Int.tmod (wrap64 (rd l0 (wrap64 (a1 + 2)))) 32) > 30))))) else (spec_OpenFrame.j1 kj2 l0 a1 y360 (wrap64 ((wrap64 (rd l0 (ji9))) + 1)) (wrap64 (Int.tdiv (wrap64 (rd l0 (wrap64 (a1 + 2)))) 32)) (Int.tmod (wrap64 (rd l0 (wrap64 (a1 + 2)))) 32) true)) else (none)) else (none)) else (none)) else (none)) else (none)) else (none)) = some (r1, r2, r3) := by first | (rw [hji9] at H; exact H) | (simp only [hji9] at H ⊢; exact H)
   have hji9w : (IntKind.i64.wrap (a1 + 1)) = ji9 := (i64_w _).trans hji9
   by_cases c10 : 0 ≤ (ji9)
   case neg =>
    rw [if_neg c10] at H
    exact absurd H (by simp)
   rw [if_pos c10] at H
   have c10b0 : decide (0 ≤ (ji9)) = true := zE c10
   clear c10
   by_cases c11 : (ji9) < (l0.length : Int)
   case neg =>
    rw [if_neg c11] at H
    exact absurd H (by simp)
   rw [if_pos c11] at H
   have c11b0 : decide ((ji9) < (l0.length : Int)) = true := zE c11
   clear c11
   obtain ⟨ji12, hji12⟩ : ∃ j_ : Int, (wrap64 (a1 + 2)) = j_ := ⟨_, rfl⟩
   replace H : (if 0 ≤ (ji12) then (if (ji12) < (l0.length : Int) then (if 0 ≤ a1 then (if a1 < (l0.length : Int) then (if (rd l0 a1) = 70 then (if (wrap64 ((wrap64 (rd l0 (ji9))) + 1)) > 128 then (spec_OpenFrame.j1 kj2 l0 a1 y360 (wrap64 ((wrap64 (rd l0 (ji9))) + 1)) (wrap64 (Int.tdiv (wrap64 (rd l0 (ji12))) 32)) (Int.tmod (wrap64 (rd l0 (ji12))) 32) true) else (if (wrap64 (Int.tdiv (wrap64 (rd l0 (ji12))) 32)) > 3 then (spec_OpenFrame.j1 kj2 l0 a1 y360 (wrap64 ((wrap64 (rd l0 (ji9))) + 1)) (wrap64 (Int.tdiv (wrap64 (rd l0 (ji12))) 32)) (Int.tmod (wrap64 (rd l0 (ji12))) 32) true) else (spec_OpenFrame.j1 kj2 l0 a1 y360 (wrap64 ((wrap64 (rd l0 (ji9))) + 1)) (wrap64 (Int.tdiv (wrap64 (rd l0 (ji12))) 32)) (Int.tmod (wrap64 (rd l0 (ji12))) 32) (decide ((Int.tmod (wrap64 (rd l0 (ji12))) 32) > 30))))) else (spec_OpenFrame.j1 kj2 l0 a1 y360 (wrap64 ((wrap64 (rd l0 (ji9))) + 1)) (wrap64 (Int.tdiv (wrap64 (rd l0 (ji12))) 32)) (Int.tmod (wrap64 (rd l0 (ji12))) 32) true)) else (none)) else (none)) else (none)) else (none)) = some (r1, r2, r3) := by first | (rw [hji12] at H; exact H) | (simp only [hji12] at H ⊢; exact H)
   have hji12w : (IntKind.i64.wrap (a1 + 2)) = ji12 := (i64_w _).trans hji12
   by_cases c13 : 0 ≤ (ji12)
   case neg =>
    rw [if_neg c13] at H
    exact absurd H (by simp)
   rw [if_pos c13] at H
   have c13b0 : decide (0 ≤ (ji12)) = true := zE c13
   clear c13
   by_cases c14 : (ji12) < (l0.length : Int)
   case neg =>
    rw [if_neg c14] at H
    exact absurd H (by simp)
   rw [if_pos c14] at H
   have c14b0 : decide ((ji12) < (l0.length : Int)) = true := zE c14
   clear c14
   have HC15 := Aside0.mk H
   clear H
   have p364 : 0 ≤ ((ji9) : Int) := zT (by first | (with_reducible assumption) | assumption)
   have q364 : (ji9) < (l0.length : Int) := zT (by first | (with_reducible assumption) | assumption)
   obtain ⟨ad364, e364, hx364_0⟩ := Kd.at_int HR0.out (ji9) p364 q364
   cases e364
   replace hx364_0 := (HB.out.cell (zW w _ hx364_0)).trans hx364_0
   replace p364 := eq_true p364
   replace q364 := eq_true q364
   have p365 : 0 ≤ ((ji12) : Int) := zT (by first | (with_reducible assumption) | assumption)
   have q365 : (ji12) < (l0.length : Int) := zT (by first | (with_reducible assumption) | assumption)
   obtain ⟨ad365, e365, hx365_0⟩ := Kd.at_int HR0.out (ji12) p365 q365
   obtain rfl : ad364 = ad365 := (by injection e365)
   replace hx365_0 := (HB.out.cell (zW w _ hx365_0)).trans hx365_0
   replace p365 := eq_true p365
   replace q365 := eq_true q365
   have p366 : 0 ≤ ((ji12) : Int) := zT (by first | (with_reducible assumption) | assumption)
   have q366 : (ji12) < (l0.length : Int) := zT (by first | (with_reducible assumption) | assumption)
   obtain ⟨ad366, e366, hx366_0⟩ := Kd.at_int HR0.out (ji12) p366 q366
   obtain rfl : ad364 = ad366 := (by injection e366)
   replace hx366_0 := (HB.out.cell (zW w _ hx366_0)).trans hx366_0
   replace p366 := eq_true p366
   replace q366 := eq_true q366
   go_upto_region 6 with (fail)
   repeat (go_quiet (fail); go_upto_region 6 with (fail))
   go_cut [73] (fun v73 wc => ∃ (kq : Nat) (x73_14 : Bool), v73 = .bool x73_14 ∧ Aside0 (spec_OpenFrame.j1 kq l0 a1 y360 (wrap64 ((wrap64 (rd l0 (ji9))) + 1)) (wrap64 (Int.tdiv (wrap64 (rd l0 (ji12))) 32)) (Int.tmod (wrap64 (rd l0 (ji12))) 32) x73_14 = some (r1, r2, r3)) ∧ Aside0 (kq ≤ kj2) ∧ Aside0 (Kd.R (Kd.int .i64) 3 wc w.heap.size (fun _ => True) v361 y360) ∧ Aside0 (Below w.heap.size w wc))
   case first =>
    have H := HC15.out
    clear HC15
    by_cases c16 : 0 ≤ a1
    case neg =>
     rw [if_neg c16] at H
     exact absurd H (by simp)
    rw [if_pos c16] at H
    have c16b0 : decide (0 ≤ a1) = true := zE c16
    clear c16
    (first | rw [c16b0] | (simp only [i64_w, i32_w]; rw [c16b0]) | skip)
    by_cases c17 : a1 < (l0.length : Int)
    case neg =>
     rw [if_neg c17] at H
     exact absurd H (by simp)
    rw [if_pos c17] at H
    have c17b0 : decide (a1 < (l0.length : Int)) = true := zE c17
    clear c17
    by_cases c18 : (rd l0 a1) = 70
    case neg =>
     rw [if_neg c18] at H
     have c18b0 : ((rd l0 a1) == 70) = false := beq_eq_false_iff_ne.mpr c18
     have c18b1 : ((rd l0 a1) != 70) = true := bne_iff_ne.mpr c18
     have H' := Aside0.mk H
     clear H
     have p367 : 0 ≤ (a1 : Int) := zT (by first | (with_reducible assumption) | assumption)
     have q367 : a1 < (l0.length : Int) := zT (by first | (with_reducible assumption) | assumption)
     obtain ⟨ad367, e367, hx367_0⟩ := Kd.at_int HR0.out a1 p367 q367
     obtain rfl : ad364 = ad367 := (by injection e367)
     replace hx367_0 := (HB.out.cell (zW w _ hx367_0)).trans hx367_0
     replace p367 := eq_true p367
     replace q367 := eq_true q367
     go_wp2
     repeat (go_quiet (fail); try go_wp2)
     go_meet
     case rel => exact ⟨_, (true), (by first | rfl | (simp; done) | (simp [*]; done)), H', ⟨by have := HJ2.out; first | omega | exact Nat.le_refl _⟩, ⟨by (with_reducible repeat (first | apply zRa | apply zRn | apply zRd)); first | exact HO_7.out | (subst_vars; exact HO_7.out)⟩, ⟨by repeat (first | (with_reducible first | exact HB.out | apply zBa | apply zBn | apply zBd) | exact HB.out)⟩⟩
    rw [if_pos c18] at H
    have c18b0 : ((rd l0 a1) == 70) = true := beq_iff_eq.mpr c18
    have c18b1 : ((rd l0 a1) != 70) = false := bne_eq_false_iff_eq.mpr c18
    clear c18
    by_cases c19 : (wrap64 ((wrap64 (rd l0 (ji9))) + 1)) > 128
    case pos =>
     rw [if_pos c19] at H
     have c19b0 : decide (128 < (wrap64 ((wrap64 (rd l0 (ji9))) + 1))) = true := zE c19
     clear c19
     have H' := Aside0.mk H
     clear H
     have p367 : 0 ≤ (a1 : Int) := zT (by first | (with_reducible assumption) | assumption)
     have q367 : a1 < (l0.length : Int) := zT (by first | (with_reducible assumption) | assumption)
     obtain ⟨ad367, e367, hx367_0⟩ := Kd.at_int HR0.out a1 p367 q367
     obtain rfl : ad364 = ad367 := (by injection e367)
     replace hx367_0 := (HB.out.cell (zW w _ hx367_0)).trans hx367_0
     replace p367 := eq_true p367
     replace q367 := eq_true q367
     go_wp2
     repeat (go_quiet (fail); try go_wp2)
     go_meet
     case rel => exact ⟨_, (true), (by first | rfl | (simp; done) | (simp [*]; done)), H', ⟨by have := HJ2.out; first | omega | exact Nat.le_refl _⟩, ⟨by (with_reducible repeat (first | apply zRa | apply zRn | apply zRd)); first | exact HO_7.out | (subst_vars; exact HO_7.out)⟩, ⟨by repeat (first | (with_reducible first | exact HB.out | apply zBa | apply zBn | apply zBd) | exact HB.out)⟩⟩
    rw [if_neg c19] at H
    have c19b0 : decide (128 < (wrap64 ((wrap64 (rd l0 (ji9))) + 1))) = false := decide_eq_false c19
    clear c19
    by_cases c20 : (wrap64 (Int.tdiv (wrap64 (rd l0 (ji12))) 32)) > 3
    case pos =>
     rw [if_pos c20] at H
     have c20b0 : decide (3 < (wrap64 (Int.tdiv (wrap64 (rd l0 (ji12))) 32))) = true := zE c20
     clear c20
     have H' := Aside0.mk H
     clear H
     have p367 : 0 ≤ (a1 : Int) := zT (by first | (with_reducible assumption) | assumption)
     have q367 : a1 < (l0.length : Int) := zT (by first | (with_reducible assumption) | assumption)
     obtain ⟨ad367, e367, hx367_0⟩ := Kd.at_int HR0.out a1 p367 q367
     obtain rfl : ad364 = ad367 := (by injection e367)
     replace hx367_0 := (HB.out.cell (zW w _ hx367_0)).trans hx367_0
     replace p367 := eq_true p367
     replace q367 := eq_true q367
     go_wp2
     repeat (go_quiet (fail); try go_wp2)
     go_meet
     case rel => exact ⟨_, (true), (by first | rfl | (simp; done) | (simp [*]; done)), H', ⟨by have := HJ2.out; first | omega | exact Nat.le_refl _⟩, ⟨by (with_reducible repeat (first | apply zRa | apply zRn | apply zRd)); first | exact HO_7.out | (subst_vars; exact HO_7.out)⟩, ⟨by repeat (first | (with_reducible first | exact HB.out | apply zBa | apply zBn | apply zBd) | exact HB.out)⟩⟩
    rw [if_neg c20] at H
    have c20b0 : decide (3 < (wrap64 (Int.tdiv (wrap64 (rd l0 (ji12))) 32))) = false := decide_eq_false c20
    clear c20
    have H' := Aside0.mk H
    clear H
    have p367 : 0 ≤ (a1 : Int) := zT (by first | (with_reducible assumption) | assumption)
    have q367 : a1 < (l0.length : Int) := zT (by first | (with_reducible assumption) | assumption)
    obtain ⟨ad367, e367, hx367_0⟩ := Kd.at_int HR0.out a1 p367 q367
    obtain rfl : ad364 = ad367 := (by injection e367)
    replace hx367_0 := (HB.out.cell (zW w _ hx367_0)).trans hx367_0
    replace p367 := eq_true p367
    replace q367 := eq_true q367
    go_wp2
    repeat (go_quiet (fail); try go_wp2)
    go_meet
    case rel => exact ⟨_, (decide ((Int.tmod (wrap64 (rd l0 (ji12))) 32) > 30)), (by first | rfl | (simp; done) | (simp only [← hji12] <;> (first | rfl | simp)) | (simp [*]; done)), H', ⟨by have := HJ2.out; first | omega | exact Nat.le_refl _⟩, ⟨by (with_reducible repeat (first | apply zRa | apply zRn | apply zRd)); first | exact HO_7.out | (subst_vars; exact HO_7.out)⟩, ⟨by repeat (first | (with_reducible first | exact HB.out | apply zBa | apply zBn | apply zBd) | exact HB.out)⟩⟩
   case rest =>
    clear HC15
    try clear c1
    try clear c2
    try clear p2
    try clear p3
    try clear q3
    try clear hx3
    try clear c4
    try clear p6
    try clear c7
    try clear c8
    try clear c10
    try clear c10b0
    try clear c11
    try clear c11b0
    try clear c13
    try clear c13b0
    try clear c14
    try clear c14b0
    try clear c16
    try clear c16b0
    try clear c17
    try clear c17b0
    try clear c18
    try clear c18b0
    try clear c18b1
    try clear c19
    try clear c19b0
    try clear c20
    try clear c20b0
    try clear hx364_0
    try clear hx365_0
    try clear hx366_0
    try clear hx367_0
    try clear p2
    try clear p364
    try clear p365
    try clear p366
    try clear p367
    try clear p6
    try clear q364
    try clear q365
    try clear q366
    try clear q367
    obtain ⟨kq, x73_14, rfl, HA, HJ14, HO_7, HB⟩ := hcut
    cases kq with
    | zero => exact absurd HA.out (by simp [spec_OpenFrame.j1])
    | succ kj14 =>
     have H := HA.out
     clear HA
     simp only [spec_OpenFrame.j1] at H
     by_cases c21 : x73_14 = true
     case pos =>
      subst c21
      have H1 : (some (y360, a1, 2)) = some (r1, r2, r3) := by rw [if_pos rfl] at H; exact H
      clear H
      have H := H1
      clear H1
      simp only [Option.some.injEq, Prod.mk.injEq] at H
      obtain ⟨rfl, rfl, rfl⟩ := H
      go_wp2
      repeat (go_quiet (fail); try go_wp2)
      go_ret3
      exact ⟨_, by first | rfl | (simp [errW_none, errW_some] <;> rfl) | (simp only [← hji9, ← hji12]; first | rfl | (simp [errW_none, errW_some] <;> rfl)) | (simp [*, errW_none, errW_some] <;> rfl), by (with_reducible repeat (first | apply zRa | apply zRn | apply zRd)); first | exact HO_7.out | (subst_vars; exact HO_7.out), by repeat (first | (with_reducible first | exact HB.out | apply zBa | apply zBn | apply zBd) | exact HB.out)⟩
     replace c21 := Bool.eq_false_iff.mpr c21
     subst c21
     have H1 : (spec_OpenFrame.l0 kj14 l0 a1 y360 (wrap64 ((wrap64 (rd l0 (ji9))) + 1)) (wrap64 (Int.tdiv (wrap64 (rd l0 (ji12))) 32)) (Int.tmod (wrap64 (rd l0 (ji12))) 32) (([] : List Int)) (wrap64 (8 * (wrap64 (a1 + 3))))) = some (r1, r2, r3) := by rw [if_neg (show ¬ (false = true) by decide)] at H; exact H
     clear H
     have H := H1
     clear H1
     obtain ⟨y368, hy368⟩ : ∃ y_ : List Int, y_ = (([] : List Int)) := ⟨_, rfl⟩
     replace H : (spec_OpenFrame.l0 kj14 l0 a1 y360 (wrap64 ((wrap64 (rd l0 (ji9))) + 1)) (wrap64 (Int.tdiv (wrap64 (rd l0 (ji12))) 32)) (Int.tmod (wrap64 (rd l0 (ji12))) 32) y368 (wrap64 (8 * (wrap64 (a1 + 3))))) = some (r1, r2, r3) := by first | (rw [hy368]; with_reducible exact H) | (have H2_ := (Option.bind_some _ _).symm.trans H; rw [hy368]; with_reducible exact H2_) | (have H2_ := (Option.bind_some _ _).symm.trans H; with_reducible exact H2_) | with_reducible exact H | (rw [hy368]; exact H) | exact H
     have Ny368 := Aside0.mk hy368
     clear hy368
     have H' := Aside0.mk H
     clear H
     go_wp2_with (first | ((with_reducible refine gate_dst (N := 76) rfl ?_); (try (refine gate_guard (by rfl) ?_; dsimp only)); refine Kd.R_lit (Kd.int .i64) _ 3 ?hg (N := 76) ?hd (xs := ([] : List Int)) (inner := []) (ok := fun _ => True) (okp := fun _ => True) ?hr ?hp (fun _ hk => hk) trivial (Below.refl _ _) (Nat.le_refl _) (by simp) ?_; (case hd => rfl); (case hg => rfl); (case hr => first | (go_simp; done) | (go_simp; rfl)); (case hp => exact (Reps.none _ _)); intro v369 w22 ho23 hb hg_ hnew_; clear hg_ hnew_; (first | rw [← Ny368.out] at ho23 | (simp only [Int.reduceToNat] at ho23; rw [← Ny368.out] at ho23)); have n0_ := Aside0.mk (Kd.R_elder' (by (with_reducible repeat (first | apply zRa | apply zRn | apply zRd)); first | exact HO_7.out | (subst_vars; exact HO_7.out)) (Kd.R_base ho23) hb); have n1_ := Aside0.mk (Kd.R_lower (Kd.R_new' ho23 (Kd.R_lt (by (with_reducible repeat (first | apply zRa | apply zRn | apply zRd)); first | exact HO_7.out | (subst_vars; exact HO_7.out)))) (below_size (by repeat (first | (with_reducible first | exact HB.out | apply zBa | apply zBn | apply zBd) | exact HB.out)))); have n2_ := Aside0.mk (below_step (by repeat (first | (with_reducible first | exact HB.out | apply zBa | apply zBn | apply zBd) | exact HB.out)) hb); clear HO_7; clear HB; have HO_7 := n0_; have HO370 := n1_; have HB := n2_; clear n0_ n1_ n2_; clear hb ho23))
     repeat (go_quiet (first | ((with_reducible refine gate_dst (N := 76) rfl ?_); (try (refine gate_guard (by rfl) ?_; dsimp only)); refine Kd.R_lit (Kd.int .i64) _ 3 ?hg (N := 76) ?hd (xs := ([] : List Int)) (inner := []) (ok := fun _ => True) (okp := fun _ => True) ?hr ?hp (fun _ hk => hk) trivial (Below.refl _ _) (Nat.le_refl _) (by simp) ?_; (case hd => rfl); (case hg => rfl); (case hr => first | (go_simp; done) | (go_simp; rfl)); (case hp => exact (Reps.none _ _)); intro v369 w22 ho23 hb hg_ hnew_; clear hg_ hnew_; (first | rw [← Ny368.out] at ho23 | (simp only [Int.reduceToNat] at ho23; rw [← Ny368.out] at ho23)); have n0_ := Aside0.mk (Kd.R_elder' (by (with_reducible repeat (first | apply zRa | apply zRn | apply zRd)); first | exact HO_7.out | (subst_vars; exact HO_7.out)) (Kd.R_base ho23) hb); have n1_ := Aside0.mk (Kd.R_lower (Kd.R_new' ho23 (Kd.R_lt (by (with_reducible repeat (first | apply zRa | apply zRn | apply zRd)); first | exact HO_7.out | (subst_vars; exact HO_7.out)))) (below_size (by repeat (first | (with_reducible first | exact HB.out | apply zBa | apply zBn | apply zBd) | exact HB.out)))); have n2_ := Aside0.mk (below_step (by repeat (first | (with_reducible first | exact HB.out | apply zBa | apply zBn | apply zBd) | exact HB.out)) hb); clear HO_7; clear HB; have HO_7 := n0_; have HO370 := n1_; have HB := n2_; clear n0_ n1_ n2_; clear hb ho23)); try go_wp2_with (first | ((with_reducible refine gate_dst (N := 76) rfl ?_); (try (refine gate_guard (by rfl) ?_; dsimp only)); refine Kd.R_lit (Kd.int .i64) _ 3 ?hg (N := 76) ?hd (xs := ([] : List Int)) (inner := []) (ok := fun _ => True) (okp := fun _ => True) ?hr ?hp (fun _ hk => hk) trivial (Below.refl _ _) (Nat.le_refl _) (by simp) ?_; (case hd => rfl); (case hg => rfl); (case hr => first | (go_simp; done) | (go_simp; rfl)); (case hp => exact (Reps.none _ _)); intro v369 w22 ho23 hb hg_ hnew_; clear hg_ hnew_; (first | rw [← Ny368.out] at ho23 | (simp only [Int.reduceToNat] at ho23; rw [← Ny368.out] at ho23)); have n0_ := Aside0.mk (Kd.R_elder' (by (with_reducible repeat (first | apply zRa | apply zRn | apply zRd)); first | exact HO_7.out | (subst_vars; exact HO_7.out)) (Kd.R_base ho23) hb); have n1_ := Aside0.mk (Kd.R_lower (Kd.R_new' ho23 (Kd.R_lt (by (with_reducible repeat (first | apply zRa | apply zRn | apply zRd)); first | exact HO_7.out | (subst_vars; exact HO_7.out)))) (below_size (by repeat (first | (with_reducible first | exact HB.out | apply zBa | apply zBn | apply zBd) | exact HB.out)))); have n2_ := Aside0.mk (below_step (by repeat (first | (with_reducible first | exact HB.out | apply zBa | apply zBn | apply zBd) | exact HB.out)) hb); clear HO_7; clear HB; have HO_7 := n0_; have HO370 := n1_; have HB := n2_; clear n0_ n1_ n2_; clear hb ho23)))
     go_loopg [11, 12] kj14 (fun kq v11 v12 w' => ∃ (x11_3 : List Int) (x12_3 : Int), v12 = .int .i64 x12_3 ∧ Aside0 (spec_OpenFrame.l0 kq l0 a1 y360 (wrap64 ((wrap64 (rd l0 (ji9))) + 1)) (wrap64 (Int.tdiv (wrap64 (rd l0 (ji12))) 32)) (Int.tmod (wrap64 (rd l0 (ji12))) 32) x11_3 x12_3 = some (r1, r2, r3)) ∧ Aside0 (kq ≤ kj14) ∧ Aside0 (Kd.R (Kd.int .i64) 3 w' w.heap.size (fun k_ => some k_ ≠ (v11 : Value).ownBlock) v361 y360) ∧ Aside0 (Kd.R (Kd.int .i64) 3 w' w.heap.size (fun k_ => some k_ ≠ (v361 : Value).ownBlock) v11 x11_3) ∧ Aside0 (Below w.heap.size w w'))
     case atStart => exact ⟨(y368), (wrap64 (8 * (wrap64 (a1 + 3)))), (by first | rfl | (simp; done) | (simp [*]; done)), H', ⟨Nat.le_refl _⟩, ⟨by (with_reducible repeat (first | apply zRa | apply zRn | apply zRd)); first | exact Kd.R_mono HO_7.out (fun _ hk => hk.2) | (subst_vars; exact Kd.R_mono HO_7.out (fun _ hk => hk.2))⟩, ⟨by (with_reducible repeat (first | apply zRa | apply zRn | apply zRd)); first | exact Kd.R_mono HO370.out (fun _ hk => hk.2) | (subst_vars; exact Kd.R_mono HO370.out (fun _ hk => hk.2))⟩, ⟨by repeat (first | (with_reducible first | exact HB.out | apply zBa | apply zBn | apply zBd) | exact HB.out)⟩⟩
     case round =>
      clear H'
      try clear c1
      try clear c2
      try clear p2
      try clear p3
      try clear q3
      try clear hx3
      try clear c4
      try clear p6
      try clear c7
      try clear c8
      try clear c10
      try clear c10b0
      try clear c11
      try clear c11b0
      try clear c13
      try clear c13b0
      try clear c14
      try clear c14b0
      try clear c16
      try clear c16b0
      try clear c17
      try clear c17b0
      try clear c18
      try clear c18b0
      try clear c18b1
      try clear c19
      try clear c19b0
      try clear c20
      try clear c20b0
      try clear c21
      try clear hx364_0
      try clear hx365_0
      try clear hx366_0
      try clear hx367_0
      try clear p2
      try clear p3
      try clear p364
      try clear p365
      try clear p366
      try clear p367
      try clear p6
      try clear q3
      try clear q364
      try clear q365
      try clear q366
      try clear q367
      obtain ⟨x11_3, x12_3, rfl, HA, HK3, HO_7, HO_11, HB⟩ := hrel
      cases gk with
      | zero => exact absurd HA.out (by simp [spec_OpenFrame.l0])
      | succ k3 =>
       have H := HA.out
       clear HA
       simp only [spec_OpenFrame.l0] at H
       by_cases c24 : x12_3 < (wrap64 (8 * (l0.length : Int)))
       case pos =>
        rw [if_pos c24] at H
        have c24b0 : decide (x12_3 < (wrap64 (8 * (l0.length : Int)))) = true := zE c24
        clear c24
        obtain ⟨ji25, hji25⟩ : ∃ j_ : Int, (wrap64 (Int.tdiv x12_3 8)) = j_ := ⟨_, rfl⟩
        replace H : (if 0 ≤ (ji25) then (if (ji25) < (l0.length : Int) then (if 0 ≤ (IntKind.u64.wrap (wrap64 (7 - (Int.tmod x12_3 8)))) then (if x11_3.length < 17592186044416 then (spec_OpenFrame.l0 k3 l0 a1 y360 (wrap64 ((wrap64 (rd l0 (ji9))) + 1)) (wrap64 (Int.tdiv (wrap64 (rd l0 (ji12))) 32)) (Int.tmod (wrap64 (rd l0 (ji12))) 32) (x11_3 ++ [Int.tmod (wrap64 (shr .u8 (rd l0 (ji25)) (IntKind.u64.wrap (wrap64 (7 - (Int.tmod x12_3 8)))))) 2]) (wrap64 (x12_3 + 1))) else (none)) else (none)) else (none)) else (none)) = some (r1, r2, r3) := by first | (rw [hji25] at H; exact H) | (simp only [hji25] at H ⊢; exact H)
        have hji25w : (IntKind.i64.wrap (Int.tdiv x12_3 8)) = ji25 := (i64_w _).trans hji25
        by_cases c26 : 0 ≤ (ji25)
        case neg =>
         rw [if_neg c26] at H
         exact absurd H (by simp)
        rw [if_pos c26] at H
        have c26b0 : decide (0 ≤ (ji25)) = true := zE c26
        clear c26
        by_cases c27 : (ji25) < (l0.length : Int)
        case neg =>
         rw [if_neg c27] at H
         exact absurd H (by simp)
        rw [if_pos c27] at H
        have c27b0 : decide ((ji25) < (l0.length : Int)) = true := zE c27
        clear c27
        obtain ⟨ji28, hji28⟩ : ∃ j_ : Int, (IntKind.u64.wrap (wrap64 (7 - (Int.tmod x12_3 8)))) = j_ := ⟨_, rfl⟩
        replace H : (if 0 ≤ (ji28) then (if x11_3.length < 17592186044416 then (spec_OpenFrame.l0 k3 l0 a1 y360 (wrap64 ((wrap64 (rd l0 (ji9))) + 1)) (wrap64 (Int.tdiv (wrap64 (rd l0 (ji12))) 32)) (Int.tmod (wrap64 (rd l0 (ji12))) 32) (x11_3 ++ [Int.tmod (wrap64 (shr .u8 (rd l0 (ji25)) (ji28))) 2]) (wrap64 (x12_3 + 1))) else (none)) else (none)) = some (r1, r2, r3) := by first | (rw [hji28] at H; exact H) | (simp only [hji28] at H ⊢; exact H)
        by_cases c29 : 0 ≤ (ji28)
        case neg =>
         rw [if_neg c29] at H
         exact absurd H (by simp)
        rw [if_pos c29] at H
        have c29b0 := eq_true c29
        have c29b1 : decide (0 ≤ (ji28)) = true := zE c29
        clear c29
        obtain ⟨ji30, hji30⟩ : ∃ j_ : Int, (shr .u8 (rd l0 (ji25)) (ji28)) = j_ := ⟨_, rfl⟩
        replace H : (if x11_3.length < 17592186044416 then (spec_OpenFrame.l0 k3 l0 a1 y360 (wrap64 ((wrap64 (rd l0 (ji9))) + 1)) (wrap64 (Int.tdiv (wrap64 (rd l0 (ji12))) 32)) (Int.tmod (wrap64 (rd l0 (ji12))) 32) (x11_3 ++ [Int.tmod (wrap64 (ji30)) 2]) (wrap64 (x12_3 + 1))) else (none)) = some (r1, r2, r3) := by first | (rw [hji30] at H; exact H) | (simp only [hji30] at H ⊢; exact H)
        have hji30_ : ((rd l0 (ji25)) / 2 ^ min (ji28).toNat 8) = ji30 := hji30
        have hji30z : (ji28) ≤ 8 → ((rd l0 (ji25)) / 2 ^ (ji28).toNat) = ji30 := shr_small hji30
        by_cases c31 : x11_3.length < 17592186044416
        case neg =>
         rw [if_neg c31] at H
         exact absurd H (by simp)
        rw [if_pos c31] at H
        have LMc31 := Aside0.mk c31
        clear c31
        obtain ⟨y372, hy372⟩ : ∃ y_ : List Int, y_ = (x11_3 ++ [Int.tmod (wrap64 (ji30)) 2]) := ⟨_, rfl⟩
        replace H : (spec_OpenFrame.l0 k3 l0 a1 y360 (wrap64 ((wrap64 (rd l0 (ji9))) + 1)) (wrap64 (Int.tdiv (wrap64 (rd l0 (ji12))) 32)) (Int.tmod (wrap64 (rd l0 (ji12))) 32) y372 (wrap64 (x12_3 + 1))) = some (r1, r2, r3) := by first | (rw [hy372]; with_reducible exact H) | (have H2_ := (Option.bind_some _ _).symm.trans H; rw [hy372]; with_reducible exact H2_) | (have H2_ := (Option.bind_some _ _).symm.trans H; with_reducible exact H2_) | with_reducible exact H | (rw [hy372]; exact H) | exact H
        have Ny372 := Aside0.mk hy372
        clear hy372
        have H' := Aside0.mk H
        clear H
        have p371 : 0 ≤ ((ji25) : Int) := zT (by first | (with_reducible assumption) | assumption)
        have q371 : (ji25) < (l0.length : Int) := zT (by first | (with_reducible assumption) | assumption)
        obtain ⟨ad371, e371, hx371_0⟩ := Kd.at_int HR0.out (ji25) p371 q371
        obtain rfl : ad364 = ad371 := (by injection e371)
        replace hx371_0 := (HB.out.cell (zW w _ hx371_0)).trans hx371_0
        replace p371 := eq_true p371
        replace q371 := eq_true q371
        go_wp2_with (first | ((with_reducible refine gate_builtin (b := .append) (xs := #[.tmp 87, .tmp 100]) rfl ?_); (try (refine gate_guard (by rfl) ?_; dsimp only)); at_builtin; refine Kd.R_append (Kd.int .i64) (w0 := w) w.heap.size rfl (.tmp 87) (.tmp 100) 24 3 (.int .i64 0) 8 rfl Try.underlying24 info3 rfl (by decide) (by omega) u11 x11_3 (Int.tmod (wrap64 (ji30)) 2) [.int .i64 (Int.tmod (wrap64 (ji30)) 2)] (fun k_ => some k_ ≠ (v361 : Value).ownBlock) (fun _ => False) rfl rfl ?aP (fun _ hk => hk.elim) ?aF ?aO ?aB ?aS ?aL ?_; (case aP => exact rfl); (case aB => exact (by repeat (first | (with_reducible first | exact HB.out | apply zBa | apply zBn | apply zBd) | exact HB.out))); (case aF => exact (fun k_ hk => Kd.fresh' (Kd.R_lt (by (with_reducible repeat (first | apply zRa | apply zRn | apply zRd)); first | exact HO_7.out | (subst_vars; exact HO_7.out))) k_ hk)); (case aO => exact (by (with_reducible repeat (first | apply zRa | apply zRn | apply zRd)); first | exact HO_11.out | (subst_vars; exact HO_11.out))); (case aS => exact (below_size (by repeat (first | (with_reducible first | exact HB.out | apply zBa | apply zBn | apply zBd) | exact HB.out)))); (case aL => have := LMc31.out; omega); intro v373 w32 ho hb hg hat; (first | rw [← Ny372.out] at ho | (simp only [Int.reduceToNat] at ho; rw [← Ny372.out] at ho)); have n0_ := Aside0.mk (Kd.R_after (ok := (fun _ => True)) (by (with_reducible repeat (first | apply zRa | apply zRn | apply zRd)); first | exact Kd.R_mono HO_7.out (fun _ hk => ⟨trivial, hk⟩) | (subst_vars; exact Kd.R_mono HO_7.out (fun _ hk => ⟨trivial, hk⟩))) hg hat); have n1_ := Aside0.mk (hb); have n2_ := Aside0.mk (ho); clear HO_7; clear HB; clear HO_11; have HO_7 := n0_; have HB := n1_; have HO374 := n2_; clear n0_ n1_ n2_; clear ho hb hg hat))
        repeat (go_quiet (first | ((with_reducible refine gate_builtin (b := .append) (xs := #[.tmp 87, .tmp 100]) rfl ?_); (try (refine gate_guard (by rfl) ?_; dsimp only)); at_builtin; refine Kd.R_append (Kd.int .i64) (w0 := w) w.heap.size rfl (.tmp 87) (.tmp 100) 24 3 (.int .i64 0) 8 rfl Try.underlying24 info3 rfl (by decide) (by omega) u11 x11_3 (Int.tmod (wrap64 (ji30)) 2) [.int .i64 (Int.tmod (wrap64 (ji30)) 2)] (fun k_ => some k_ ≠ (v361 : Value).ownBlock) (fun _ => False) rfl rfl ?aP (fun _ hk => hk.elim) ?aF ?aO ?aB ?aS ?aL ?_; (case aP => exact rfl); (case aB => exact (by repeat (first | (with_reducible first | exact HB.out | apply zBa | apply zBn | apply zBd) | exact HB.out))); (case aF => exact (fun k_ hk => Kd.fresh' (Kd.R_lt (by (with_reducible repeat (first | apply zRa | apply zRn | apply zRd)); first | exact HO_7.out | (subst_vars; exact HO_7.out))) k_ hk)); (case aO => exact (by (with_reducible repeat (first | apply zRa | apply zRn | apply zRd)); first | exact HO_11.out | (subst_vars; exact HO_11.out))); (case aS => exact (below_size (by repeat (first | (with_reducible first | exact HB.out | apply zBa | apply zBn | apply zBd) | exact HB.out)))); (case aL => have := LMc31.out; omega); intro v373 w32 ho hb hg hat; (first | rw [← Ny372.out] at ho | (simp only [Int.reduceToNat] at ho; rw [← Ny372.out] at ho)); have n0_ := Aside0.mk (Kd.R_after (ok := (fun _ => True)) (by (with_reducible repeat (first | apply zRa | apply zRn | apply zRd)); first | exact Kd.R_mono HO_7.out (fun _ hk => ⟨trivial, hk⟩) | (subst_vars; exact Kd.R_mono HO_7.out (fun _ hk => ⟨trivial, hk⟩))) hg hat); have n1_ := Aside0.mk (hb); have n2_ := Aside0.mk (ho); clear HO_7; clear HB; clear HO_11; have HO_7 := n0_; have HB := n1_; have HO374 := n2_; clear n0_ n1_ n2_; clear ho hb hg hat)); try go_wp2_with (first | ((with_reducible refine gate_builtin (b := .append) (xs := #[.tmp 87, .tmp 100]) rfl ?_); (try (refine gate_guard (by rfl) ?_; dsimp only)); at_builtin; refine Kd.R_append (Kd.int .i64) (w0 := w) w.heap.size rfl (.tmp 87) (.tmp 100) 24 3 (.int .i64 0) 8 rfl Try.underlying24 info3 rfl (by decide) (by omega) u11 x11_3 (Int.tmod (wrap64 (ji30)) 2) [.int .i64 (Int.tmod (wrap64 (ji30)) 2)] (fun k_ => some k_ ≠ (v361 : Value).ownBlock) (fun _ => False) rfl rfl ?aP (fun _ hk => hk.elim) ?aF ?aO ?aB ?aS ?aL ?_; (case aP => exact rfl); (case aB => exact (by repeat (first | (with_reducible first | exact HB.out | apply zBa | apply zBn | apply zBd) | exact HB.out))); (case aF => exact (fun k_ hk => Kd.fresh' (Kd.R_lt (by (with_reducible repeat (first | apply zRa | apply zRn | apply zRd)); first | exact HO_7.out | (subst_vars; exact HO_7.out))) k_ hk)); (case aO => exact (by (with_reducible repeat (first | apply zRa | apply zRn | apply zRd)); first | exact HO_11.out | (subst_vars; exact HO_11.out))); (case aS => exact (below_size (by repeat (first | (with_reducible first | exact HB.out | apply zBa | apply zBn | apply zBd) | exact HB.out)))); (case aL => have := LMc31.out; omega); intro v373 w32 ho hb hg hat; (first | rw [← Ny372.out] at ho | (simp only [Int.reduceToNat] at ho; rw [← Ny372.out] at ho)); have n0_ := Aside0.mk (Kd.R_after (ok := (fun _ => True)) (by (with_reducible repeat (first | apply zRa | apply zRn | apply zRd)); first | exact Kd.R_mono HO_7.out (fun _ hk => ⟨trivial, hk⟩) | (subst_vars; exact Kd.R_mono HO_7.out (fun _ hk => ⟨trivial, hk⟩))) hg hat); have n1_ := Aside0.mk (hb); have n2_ := Aside0.mk (ho); clear HO_7; clear HB; clear HO_11; have HO_7 := n0_; have HB := n1_; have HO374 := n2_; clear n0_ n1_ n2_; clear ho hb hg hat)))
        go_roundg k3
        case measure => have := HJ2.out; have := HJ14.out; have := HK3.out; omega
        case rel => exact ⟨(y372), (wrap64 (x12_3 + 1)), (by first | rfl | (simp; done) | (simp [*]; done)), H', ⟨by have := HJ2.out; have := HJ14.out; have := HK3.out; omega⟩, ⟨by (with_reducible repeat (first | apply zRa | apply zRn | apply zRd)); first | exact Kd.R_mono HO_7.out (fun _ hk => hk.2) | (subst_vars; exact Kd.R_mono HO_7.out (fun _ hk => hk.2))⟩, ⟨by (with_reducible repeat (first | apply zRa | apply zRn | apply zRd)); first | exact HO374.out | (subst_vars; exact HO374.out)⟩, ⟨by repeat (first | (with_reducible first | exact HB.out | apply zBa | apply zBn | apply zBd) | exact HB.out)⟩⟩
       rw [if_neg c24] at H
       have c24b0 : decide (x12_3 < (wrap64 (8 * (l0.length : Int)))) = false := decide_eq_false c24
       clear c24
       replace H := Option.bind_eq_some_iff.mp H
       obtain ⟨⟨t375, t376, t377⟩, A330, H⟩ := H
       replace H : (if t377 = true then (if (wrap64 ((l0.length : Int) - (wrap64 ((wrap64 (a1 + 3)) + (wrap64 (Int.tdiv (wrap64 (t376 + 7)) 8)))))) < 2 then (some (y360, a1, 1)) else (if 0 ≤ a1 then (if a1 ≤ (wrap64 ((wrap64 (a1 + 3)) + (wrap64 (Int.tdiv (wrap64 (t376 + 7)) 8)))) then (if (wrap64 ((wrap64 (a1 + 3)) + (wrap64 (Int.tdiv (wrap64 (t376 + 7)) 8)))) ≤ (l0.length : Int) then ((spec_Crc16.f k3 ((l0.take ((wrap64 ((wrap64 (a1 + 3)) + (wrap64 (Int.tdiv (wrap64 (t376 + 7)) 8)))) : Int).toNat).drop (a1 : Int).toNat)).bind fun t381 => (if 0 ≤ (wrap64 ((wrap64 (a1 + 3)) + (wrap64 (Int.tdiv (wrap64 (t376 + 7)) 8)))) then (if (wrap64 ((wrap64 (a1 + 3)) + (wrap64 (Int.tdiv (wrap64 (t376 + 7)) 8)))) < (l0.length : Int) then (if 0 ≤ (wrap64 ((wrap64 ((wrap64 (a1 + 3)) + (wrap64 (Int.tdiv (wrap64 (t376 + 7)) 8)))) + 1)) then (if (wrap64 ((wrap64 ((wrap64 (a1 + 3)) + (wrap64 (Int.tdiv (wrap64 (t376 + 7)) 8)))) + 1)) < (l0.length : Int) then (if t381 = (wrap64 ((wrap64 (256 * (wrap64 (rd l0 (wrap64 ((wrap64 (a1 + 3)) + (wrap64 (Int.tdiv (wrap64 (t376 + 7)) 8)))))))) + (wrap64 (rd l0 (wrap64 ((wrap64 ((wrap64 (a1 + 3)) + (wrap64 (Int.tdiv (wrap64 (t376 + 7)) 8)))) + 1)))))) then ((spec_UnGuess.f k3 (wrap64 (Int.tdiv (wrap64 (rd l0 (ji12))) 32)) t375).bind fun bt384 => (if bt384.2 = true then ((spec_PackFrame.f k3 bt384.1).bind fun bt388 => (if a1 ≤ (wrap64 ((wrap64 ((wrap64 (a1 + 3)) + (wrap64 (Int.tdiv (wrap64 (t376 + 7)) 8)))) + 2)) then (if (wrap64 ((wrap64 ((wrap64 (a1 + 3)) + (wrap64 (Int.tdiv (wrap64 (t376 + 7)) 8)))) + 2)) ≤ (l0.length : Int) then (if (strOfNums bt388.1).toList = (strOfNums ((l0.take ((wrap64 ((wrap64 ((wrap64 (a1 + 3)) + (wrap64 (Int.tdiv (wrap64 (t376 + 7)) 8)))) + 2)) : Int).toNat).drop (a1 : Int).toNat)).toList then (some (bt384.1, wrap64 ((wrap64 ((wrap64 (a1 + 3)) + (wrap64 (Int.tdiv (wrap64 (t376 + 7)) 8)))) + 2), 0)) else (some (y360, a1, 5))) else (none)) else (none))) else (some (y360, a1, 5)))) else (some (y360, a1, 4))) else (none)) else (none)) else (none)) else (none))) else (none)) else (none)) else (none))) else (some (y360, a1, 3))) = some (r1, r2, r3) := H
       have A33 := Aside0.mk A330
       clear A330
       by_cases c34 : t377 = true
       case neg =>
        replace c34 := Bool.eq_false_iff.mpr c34
        subst c34
        have H1 : (some (y360, a1, 3)) = some (r1, r2, r3) := by rw [if_neg (show ¬ (false = true) by decide)] at H; exact H
        clear H
        have H := H1
        clear H1
        simp only [Option.some.injEq, Prod.mk.injEq] at H
        obtain ⟨rfl, rfl, rfl⟩ := H
        obtain ⟨Ao84, co84, eo84⟩ := Kd.R_slice HO_11.out
        subst eo84
        go_wp2_with (first | (go_at_call 90; (with_reducible refine (spec_UnRice.calls k3 (Int.tmod (wrap64 (rd l0 (ji12))) 32) _ _ x11_3 (wrap64 ((wrap64 (rd l0 (ji9))) + 1)) t375 t376 false _ ?side1 ?side2 A33.out).mono ?_); (case side1 => repeat (first | exact (Kd.R_reads' HO_11.out).2.2 | (with_reducible first | refine zCa ?_ _ | refine zCn ?_ _ | refine zCd ?_))); (case side2 => exact (Kd.R_reads' HO_11.out).2.1); rintro e w85 ⟨v378, rfl, ho0, hb⟩; have n0_ := Aside0.mk (Kd.R_elder' (by (with_reducible repeat (first | apply zRa | apply zRn | apply zRd)); first | exact HO_7.out | (subst_vars; exact HO_7.out)) (Kd.R_base ho0) hb); have n1_ := Aside0.mk (Kd.R_elder' (by (with_reducible repeat (first | apply zRa | apply zRn | apply zRd)); first | exact HO_11.out | (subst_vars; exact HO_11.out)) (Kd.R_base ho0) hb); have n2_ := Aside0.mk (Kd.R_lower (Kd.R_new' (Kd.R_new' ho0 (Kd.R_lt (by (with_reducible repeat (first | apply zRa | apply zRn | apply zRd)); first | exact HO_7.out | (subst_vars; exact HO_7.out)))) (Kd.R_lt (by (with_reducible repeat (first | apply zRa | apply zRn | apply zRd)); first | exact HO_11.out | (subst_vars; exact HO_11.out)))) (below_size (by repeat (first | (with_reducible first | exact HB.out | apply zBa | apply zBn | apply zBd) | exact HB.out)))); have n3_ := Aside0.mk (below_step (by repeat (first | (with_reducible first | exact HB.out | apply zBa | apply zBn | apply zBd) | exact HB.out)) hb); clear HO_7; clear HO_11; clear HB; have HO_7 := n0_; have HO_11 := n1_; have HO379 := n2_; have HB := n3_; clear n0_ n1_ n2_ n3_; (try clear hb); (try clear hb2); (try clear hk); (try clear hi); (try clear ho0)))
        repeat (go_quiet (first | (go_at_call 90; (with_reducible refine (spec_UnRice.calls k3 (Int.tmod (wrap64 (rd l0 (ji12))) 32) _ _ x11_3 (wrap64 ((wrap64 (rd l0 (ji9))) + 1)) t375 t376 false _ ?side1 ?side2 A33.out).mono ?_); (case side1 => repeat (first | exact (Kd.R_reads' HO_11.out).2.2 | (with_reducible first | refine zCa ?_ _ | refine zCn ?_ _ | refine zCd ?_))); (case side2 => exact (Kd.R_reads' HO_11.out).2.1); rintro e w85 ⟨v378, rfl, ho0, hb⟩; have n0_ := Aside0.mk (Kd.R_elder' (by (with_reducible repeat (first | apply zRa | apply zRn | apply zRd)); first | exact HO_7.out | (subst_vars; exact HO_7.out)) (Kd.R_base ho0) hb); have n1_ := Aside0.mk (Kd.R_elder' (by (with_reducible repeat (first | apply zRa | apply zRn | apply zRd)); first | exact HO_11.out | (subst_vars; exact HO_11.out)) (Kd.R_base ho0) hb); have n2_ := Aside0.mk (Kd.R_lower (Kd.R_new' (Kd.R_new' ho0 (Kd.R_lt (by (with_reducible repeat (first | apply zRa | apply zRn | apply zRd)); first | exact HO_7.out | (subst_vars; exact HO_7.out)))) (Kd.R_lt (by (with_reducible repeat (first | apply zRa | apply zRn | apply zRd)); first | exact HO_11.out | (subst_vars; exact HO_11.out)))) (below_size (by repeat (first | (with_reducible first | exact HB.out | apply zBa | apply zBn | apply zBd) | exact HB.out)))); have n3_ := Aside0.mk (below_step (by repeat (first | (with_reducible first | exact HB.out | apply zBa | apply zBn | apply zBd) | exact HB.out)) hb); clear HO_7; clear HO_11; clear HB; have HO_7 := n0_; have HO_11 := n1_; have HO379 := n2_; have HB := n3_; clear n0_ n1_ n2_ n3_; (try clear hb); (try clear hb2); (try clear hk); (try clear hi); (try clear ho0))); try go_wp2_with (first | (go_at_call 90; (with_reducible refine (spec_UnRice.calls k3 (Int.tmod (wrap64 (rd l0 (ji12))) 32) _ _ x11_3 (wrap64 ((wrap64 (rd l0 (ji9))) + 1)) t375 t376 false _ ?side1 ?side2 A33.out).mono ?_); (case side1 => repeat (first | exact (Kd.R_reads' HO_11.out).2.2 | (with_reducible first | refine zCa ?_ _ | refine zCn ?_ _ | refine zCd ?_))); (case side2 => exact (Kd.R_reads' HO_11.out).2.1); rintro e w85 ⟨v378, rfl, ho0, hb⟩; have n0_ := Aside0.mk (Kd.R_elder' (by (with_reducible repeat (first | apply zRa | apply zRn | apply zRd)); first | exact HO_7.out | (subst_vars; exact HO_7.out)) (Kd.R_base ho0) hb); have n1_ := Aside0.mk (Kd.R_elder' (by (with_reducible repeat (first | apply zRa | apply zRn | apply zRd)); first | exact HO_11.out | (subst_vars; exact HO_11.out)) (Kd.R_base ho0) hb); have n2_ := Aside0.mk (Kd.R_lower (Kd.R_new' (Kd.R_new' ho0 (Kd.R_lt (by (with_reducible repeat (first | apply zRa | apply zRn | apply zRd)); first | exact HO_7.out | (subst_vars; exact HO_7.out)))) (Kd.R_lt (by (with_reducible repeat (first | apply zRa | apply zRn | apply zRd)); first | exact HO_11.out | (subst_vars; exact HO_11.out)))) (below_size (by repeat (first | (with_reducible first | exact HB.out | apply zBa | apply zBn | apply zBd) | exact HB.out)))); have n3_ := Aside0.mk (below_step (by repeat (first | (with_reducible first | exact HB.out | apply zBa | apply zBn | apply zBd) | exact HB.out)) hb); clear HO_7; clear HO_11; clear HB; have HO_7 := n0_; have HO_11 := n1_; have HO379 := n2_; have HB := n3_; clear n0_ n1_ n2_ n3_; (try clear hb); (try clear hb2); (try clear hk); (try clear hi); (try clear ho0))))
        go_ret3
        exact ⟨_, by first | rfl | (simp [errW_none, errW_some] <;> rfl) | (simp only [← hji9, ← hji12]; first | rfl | (simp [errW_none, errW_some] <;> rfl)) | (simp [*, errW_none, errW_some] <;> rfl), by (with_reducible repeat (first | apply zRa | apply zRn | apply zRd)); first | exact Kd.R_mono HO_7.out (fun _ hk => trivial) | (subst_vars; exact Kd.R_mono HO_7.out (fun _ hk => trivial)), by repeat (first | (with_reducible first | exact HB.out | apply zBa | apply zBn | apply zBd) | exact HB.out)⟩
       subst c34
       have H1 : (if (wrap64 ((l0.length : Int) - (wrap64 ((wrap64 (a1 + 3)) + (wrap64 (Int.tdiv (wrap64 (t376 + 7)) 8)))))) < 2 then (some (y360, a1, 1)) else (if 0 ≤ a1 then (if a1 ≤ (wrap64 ((wrap64 (a1 + 3)) + (wrap64 (Int.tdiv (wrap64 (t376 + 7)) 8)))) then (if (wrap64 ((wrap64 (a1 + 3)) + (wrap64 (Int.tdiv (wrap64 (t376 + 7)) 8)))) ≤ (l0.length : Int) then ((spec_Crc16.f k3 ((l0.take ((wrap64 ((wrap64 (a1 + 3)) + (wrap64 (Int.tdiv (wrap64 (t376 + 7)) 8)))) : Int).toNat).drop (a1 : Int).toNat)).bind fun t381 => (if 0 ≤ (wrap64 ((wrap64 (a1 + 3)) + (wrap64 (Int.tdiv (wrap64 (t376 + 7)) 8)))) then (if (wrap64 ((wrap64 (a1 + 3)) + (wrap64 (Int.tdiv (wrap64 (t376 + 7)) 8)))) < (l0.length : Int) then (if 0 ≤ (wrap64 ((wrap64 ((wrap64 (a1 + 3)) + (wrap64 (Int.tdiv (wrap64 (t376 + 7)) 8)))) + 1)) then (if (wrap64 ((wrap64 ((wrap64 (a1 + 3)) + (wrap64 (Int.tdiv (wrap64 (t376 + 7)) 8)))) + 1)) < (l0.length : Int) then (if t381 = (wrap64 ((wrap64 (256 * (wrap64 (rd l0 (wrap64 ((wrap64 (a1 + 3)) + (wrap64 (Int.tdiv (wrap64 (t376 + 7)) 8)))))))) + (wrap64 (rd l0 (wrap64 ((wrap64 ((wrap64 (a1 + 3)) + (wrap64 (Int.tdiv (wrap64 (t376 + 7)) 8)))) + 1)))))) then ((spec_UnGuess.f k3 (wrap64 (Int.tdiv (wrap64 (rd l0 (ji12))) 32)) t375).bind fun bt384 => (if bt384.2 = true then ((spec_PackFrame.f k3 bt384.1).bind fun bt388 => (if a1 ≤ (wrap64 ((wrap64 ((wrap64 (a1 + 3)) + (wrap64 (Int.tdiv (wrap64 (t376 + 7)) 8)))) + 2)) then (if (wrap64 ((wrap64 ((wrap64 (a1 + 3)) + (wrap64 (Int.tdiv (wrap64 (t376 + 7)) 8)))) + 2)) ≤ (l0.length : Int) then (if (strOfNums bt388.1).toList = (strOfNums ((l0.take ((wrap64 ((wrap64 ((wrap64 (a1 + 3)) + (wrap64 (Int.tdiv (wrap64 (t376 + 7)) 8)))) + 2)) : Int).toNat).drop (a1 : Int).toNat)).toList then (some (bt384.1, wrap64 ((wrap64 ((wrap64 (a1 + 3)) + (wrap64 (Int.tdiv (wrap64 (t376 + 7)) 8)))) + 2), 0)) else (some (y360, a1, 5))) else (none)) else (none))) else (some (y360, a1, 5)))) else (some (y360, a1, 4))) else (none)) else (none)) else (none)) else (none))) else (none)) else (none)) else (none))) = some (r1, r2, r3) := by rw [if_pos rfl] at H; exact H
       clear H
       have H := H1
       clear H1
       by_cases c35 : (wrap64 ((l0.length : Int) - (wrap64 ((wrap64 (a1 + 3)) + (wrap64 (Int.tdiv (wrap64 (t376 + 7)) 8)))))) < 2
       case pos =>
        rw [if_pos c35] at H
        have c35b0 : decide ((wrap64 ((l0.length : Int) - (wrap64 ((wrap64 (a1 + 3)) + (wrap64 (Int.tdiv (wrap64 (t376 + 7)) 8)))))) < 2) = true := zE c35
        clear c35
        simp only [Option.some.injEq, Prod.mk.injEq] at H
        obtain ⟨rfl, rfl, rfl⟩ := H
        obtain ⟨Ao36, co36, eo36⟩ := Kd.R_slice HO_11.out
        subst eo36
        go_wp2_with (first | (go_at_call 90; (with_reducible refine (spec_UnRice.calls k3 (Int.tmod (wrap64 (rd l0 (ji12))) 32) _ _ x11_3 (wrap64 ((wrap64 (rd l0 (ji9))) + 1)) t375 t376 true _ ?side1 ?side2 A33.out).mono ?_); (case side1 => repeat (first | exact (Kd.R_reads' HO_11.out).2.2 | (with_reducible first | refine zCa ?_ _ | refine zCn ?_ _ | refine zCd ?_))); (case side2 => exact (Kd.R_reads' HO_11.out).2.1); rintro e w37 ⟨v378, rfl, ho0, hb⟩; have n0_ := Aside0.mk (Kd.R_elder' (by (with_reducible repeat (first | apply zRa | apply zRn | apply zRd)); first | exact HO_7.out | (subst_vars; exact HO_7.out)) (Kd.R_base ho0) hb); have n1_ := Aside0.mk (Kd.R_elder' (by (with_reducible repeat (first | apply zRa | apply zRn | apply zRd)); first | exact HO_11.out | (subst_vars; exact HO_11.out)) (Kd.R_base ho0) hb); have n2_ := Aside0.mk (Kd.R_lower (Kd.R_new' (Kd.R_new' ho0 (Kd.R_lt (by (with_reducible repeat (first | apply zRa | apply zRn | apply zRd)); first | exact HO_7.out | (subst_vars; exact HO_7.out)))) (Kd.R_lt (by (with_reducible repeat (first | apply zRa | apply zRn | apply zRd)); first | exact HO_11.out | (subst_vars; exact HO_11.out)))) (below_size (by repeat (first | (with_reducible first | exact HB.out | apply zBa | apply zBn | apply zBd) | exact HB.out)))); have n3_ := Aside0.mk (below_step (by repeat (first | (with_reducible first | exact HB.out | apply zBa | apply zBn | apply zBd) | exact HB.out)) hb); clear HO_7; clear HO_11; clear HB; have HO_7 := n0_; have HO_11 := n1_; have HO379 := n2_; have HB := n3_; clear n0_ n1_ n2_ n3_; (try clear hb); (try clear hb2); (try clear hk); (try clear hi); (try clear ho0)))
        repeat (go_quiet (first | (go_at_call 90; (with_reducible refine (spec_UnRice.calls k3 (Int.tmod (wrap64 (rd l0 (ji12))) 32) _ _ x11_3 (wrap64 ((wrap64 (rd l0 (ji9))) + 1)) t375 t376 true _ ?side1 ?side2 A33.out).mono ?_); (case side1 => repeat (first | exact (Kd.R_reads' HO_11.out).2.2 | (with_reducible first | refine zCa ?_ _ | refine zCn ?_ _ | refine zCd ?_))); (case side2 => exact (Kd.R_reads' HO_11.out).2.1); rintro e w37 ⟨v378, rfl, ho0, hb⟩; have n0_ := Aside0.mk (Kd.R_elder' (by (with_reducible repeat (first | apply zRa | apply zRn | apply zRd)); first | exact HO_7.out | (subst_vars; exact HO_7.out)) (Kd.R_base ho0) hb); have n1_ := Aside0.mk (Kd.R_elder' (by (with_reducible repeat (first | apply zRa | apply zRn | apply zRd)); first | exact HO_11.out | (subst_vars; exact HO_11.out)) (Kd.R_base ho0) hb); have n2_ := Aside0.mk (Kd.R_lower (Kd.R_new' (Kd.R_new' ho0 (Kd.R_lt (by (with_reducible repeat (first | apply zRa | apply zRn | apply zRd)); first | exact HO_7.out | (subst_vars; exact HO_7.out)))) (Kd.R_lt (by (with_reducible repeat (first | apply zRa | apply zRn | apply zRd)); first | exact HO_11.out | (subst_vars; exact HO_11.out)))) (below_size (by repeat (first | (with_reducible first | exact HB.out | apply zBa | apply zBn | apply zBd) | exact HB.out)))); have n3_ := Aside0.mk (below_step (by repeat (first | (with_reducible first | exact HB.out | apply zBa | apply zBn | apply zBd) | exact HB.out)) hb); clear HO_7; clear HO_11; clear HB; have HO_7 := n0_; have HO_11 := n1_; have HO379 := n2_; have HB := n3_; clear n0_ n1_ n2_ n3_; (try clear hb); (try clear hb2); (try clear hk); (try clear hi); (try clear ho0))); try go_wp2_with (first | (go_at_call 90; (with_reducible refine (spec_UnRice.calls k3 (Int.tmod (wrap64 (rd l0 (ji12))) 32) _ _ x11_3 (wrap64 ((wrap64 (rd l0 (ji9))) + 1)) t375 t376 true _ ?side1 ?side2 A33.out).mono ?_); (case side1 => repeat (first | exact (Kd.R_reads' HO_11.out).2.2 | (with_reducible first | refine zCa ?_ _ | refine zCn ?_ _ | refine zCd ?_))); (case side2 => exact (Kd.R_reads' HO_11.out).2.1); rintro e w37 ⟨v378, rfl, ho0, hb⟩; have n0_ := Aside0.mk (Kd.R_elder' (by (with_reducible repeat (first | apply zRa | apply zRn | apply zRd)); first | exact HO_7.out | (subst_vars; exact HO_7.out)) (Kd.R_base ho0) hb); have n1_ := Aside0.mk (Kd.R_elder' (by (with_reducible repeat (first | apply zRa | apply zRn | apply zRd)); first | exact HO_11.out | (subst_vars; exact HO_11.out)) (Kd.R_base ho0) hb); have n2_ := Aside0.mk (Kd.R_lower (Kd.R_new' (Kd.R_new' ho0 (Kd.R_lt (by (with_reducible repeat (first | apply zRa | apply zRn | apply zRd)); first | exact HO_7.out | (subst_vars; exact HO_7.out)))) (Kd.R_lt (by (with_reducible repeat (first | apply zRa | apply zRn | apply zRd)); first | exact HO_11.out | (subst_vars; exact HO_11.out)))) (below_size (by repeat (first | (with_reducible first | exact HB.out | apply zBa | apply zBn | apply zBd) | exact HB.out)))); have n3_ := Aside0.mk (below_step (by repeat (first | (with_reducible first | exact HB.out | apply zBa | apply zBn | apply zBd) | exact HB.out)) hb); clear HO_7; clear HO_11; clear HB; have HO_7 := n0_; have HO_11 := n1_; have HO379 := n2_; have HB := n3_; clear n0_ n1_ n2_ n3_; (try clear hb); (try clear hb2); (try clear hk); (try clear hi); (try clear ho0))))
        go_ret3
        exact ⟨_, by first | rfl | (simp [errW_none, errW_some] <;> rfl) | (simp only [← hji9, ← hji12]; first | rfl | (simp [errW_none, errW_some] <;> rfl)) | (simp [*, errW_none, errW_some] <;> rfl), by (with_reducible repeat (first | apply zRa | apply zRn | apply zRd)); first | exact Kd.R_mono HO_7.out (fun _ hk => trivial) | (subst_vars; exact Kd.R_mono HO_7.out (fun _ hk => trivial)), by repeat (first | (with_reducible first | exact HB.out | apply zBa | apply zBn | apply zBd) | exact HB.out)⟩
       rw [if_neg c35] at H
       have c35b0 : decide ((wrap64 ((l0.length : Int) - (wrap64 ((wrap64 (a1 + 3)) + (wrap64 (Int.tdiv (wrap64 (t376 + 7)) 8)))))) < 2) = false := decide_eq_false c35
       clear c35
       by_cases c38 : 0 ≤ a1
       case neg =>
        rw [if_neg c38] at H
        exact absurd H (by simp)
       rw [if_pos c38] at H
       have c38b0 := eq_true c38
       have c38b1 : decide (0 ≤ a1) = true := zE c38
       clear c38
       by_cases c39 : a1 ≤ (wrap64 ((wrap64 (a1 + 3)) + (wrap64 (Int.tdiv (wrap64 (t376 + 7)) 8))))
       case neg =>
        rw [if_neg c39] at H
        exact absurd H (by simp)
       rw [if_pos c39] at H
       have c39b0 := eq_true c39
       have c39b1 : decide (a1 ≤ (wrap64 ((wrap64 (a1 + 3)) + (wrap64 (Int.tdiv (wrap64 (t376 + 7)) 8))))) = true := zE c39
       by_cases c40 : (wrap64 ((wrap64 (a1 + 3)) + (wrap64 (Int.tdiv (wrap64 (t376 + 7)) 8)))) ≤ (l0.length : Int)
       case neg =>
        rw [if_neg c40] at H
        exact absurd H (by simp)
       rw [if_pos c40] at H
       have c40b0 := eq_true c40
       have c40b1 : decide ((wrap64 ((wrap64 (a1 + 3)) + (wrap64 (Int.tdiv (wrap64 (t376 + 7)) 8)))) ≤ (l0.length : Int)) = true := zE c40
       replace H := Option.bind_eq_some_iff.mp H
       obtain ⟨t381, A410, H⟩ := H
       replace H : (if 0 ≤ (wrap64 ((wrap64 (a1 + 3)) + (wrap64 (Int.tdiv (wrap64 (t376 + 7)) 8)))) then (if (wrap64 ((wrap64 (a1 + 3)) + (wrap64 (Int.tdiv (wrap64 (t376 + 7)) 8)))) < (l0.length : Int) then (if 0 ≤ (wrap64 ((wrap64 ((wrap64 (a1 + 3)) + (wrap64 (Int.tdiv (wrap64 (t376 + 7)) 8)))) + 1)) then (if (wrap64 ((wrap64 ((wrap64 (a1 + 3)) + (wrap64 (Int.tdiv (wrap64 (t376 + 7)) 8)))) + 1)) < (l0.length : Int) then (if t381 = (wrap64 ((wrap64 (256 * (wrap64 (rd l0 (wrap64 ((wrap64 (a1 + 3)) + (wrap64 (Int.tdiv (wrap64 (t376 + 7)) 8)))))))) + (wrap64 (rd l0 (wrap64 ((wrap64 ((wrap64 (a1 + 3)) + (wrap64 (Int.tdiv (wrap64 (t376 + 7)) 8)))) + 1)))))) then ((spec_UnGuess.f k3 (wrap64 (Int.tdiv (wrap64 (rd l0 (ji12))) 32)) t375).bind fun bt384 => (if bt384.2 = true then ((spec_PackFrame.f k3 bt384.1).bind fun bt388 => (if a1 ≤ (wrap64 ((wrap64 ((wrap64 (a1 + 3)) + (wrap64 (Int.tdiv (wrap64 (t376 + 7)) 8)))) + 2)) then (if (wrap64 ((wrap64 ((wrap64 (a1 + 3)) + (wrap64 (Int.tdiv (wrap64 (t376 + 7)) 8)))) + 2)) ≤ (l0.length : Int) then (if (strOfNums bt388.1).toList = (strOfNums ((l0.take ((wrap64 ((wrap64 ((wrap64 (a1 + 3)) + (wrap64 (Int.tdiv (wrap64 (t376 + 7)) 8)))) + 2)) : Int).toNat).drop (a1 : Int).toNat)).toList then (some (bt384.1, wrap64 ((wrap64 ((wrap64 (a1 + 3)) + (wrap64 (Int.tdiv (wrap64 (t376 + 7)) 8)))) + 2), 0)) else (some (y360, a1, 5))) else (none)) else (none))) else (some (y360, a1, 5)))) else (some (y360, a1, 4))) else (none)) else (none)) else (none)) else (none)) = some (r1, r2, r3) := H
       have A41 := Aside0.mk A410
       clear A410
       obtain ⟨ji42, hji42⟩ : ∃ j_ : Int, (wrap64 ((wrap64 (a1 + 3)) + (wrap64 (Int.tdiv (wrap64 (t376 + 7)) 8)))) = j_ := ⟨_, rfl⟩
       replace H : (if 0 ≤ (ji42) then (if (ji42) < (l0.length : Int) then (if 0 ≤ (wrap64 ((ji42) + 1)) then (if (wrap64 ((ji42) + 1)) < (l0.length : Int) then (if t381 = (wrap64 ((wrap64 (256 * (wrap64 (rd l0 (ji42))))) + (wrap64 (rd l0 (wrap64 ((ji42) + 1)))))) then ((spec_UnGuess.f k3 (wrap64 (Int.tdiv (wrap64 (rd l0 (ji12))) 32)) t375).bind fun bt384 => (if bt384.2 = true then ((spec_PackFrame.f k3 bt384.1).bind fun bt388 => (if a1 ≤ (wrap64 ((ji42) + 2)) then (if (wrap64 ((ji42) + 2)) ≤ (l0.length : Int) then (if (strOfNums bt388.1).toList = (strOfNums ((l0.take ((wrap64 ((ji42) + 2)) : Int).toNat).drop (a1 : Int).toNat)).toList then (some (bt384.1, wrap64 ((ji42) + 2), 0)) else (some (y360, a1, 5))) else (none)) else (none))) else (some (y360, a1, 5)))) else (some (y360, a1, 4))) else (none)) else (none)) else (none)) else (none)) = some (r1, r2, r3) := by first | (rw [hji42] at H; exact H) | (simp only [hji42] at H ⊢; exact H)
       (try rw [hji42] at c35b0)
       (try rw [hji42] at c39b0)
       (try rw [hji42] at c39b1)
       (try rw [hji42] at c39)
       (try rw [hji42] at c40b0)
       (try rw [hji42] at c40b1)
       (try rw [hji42] at c40)
       (try rw [hji42] at A33)
       (try rw [hji42] at A41)
       have hji42w : (IntKind.i64.wrap ((wrap64 (a1 + 3)) + (wrap64 (Int.tdiv (wrap64 (t376 + 7)) 8)))) = ji42 := (i64_w _).trans hji42
       by_cases c43 : 0 ≤ (ji42)
       case neg =>
        rw [if_neg c43] at H
        exact absurd H (by simp)
       rw [if_pos c43] at H
       have c43b0 : decide (0 ≤ (ji42)) = true := zE c43
       clear c43
       by_cases c44 : (ji42) < (l0.length : Int)
       case neg =>
        rw [if_neg c44] at H
        exact absurd H (by simp)
       rw [if_pos c44] at H
       have c44b0 : decide ((ji42) < (l0.length : Int)) = true := zE c44
       clear c44
       obtain ⟨ji45, hji45⟩ : ∃ j_ : Int, (wrap64 ((ji42) + 1)) = j_ := ⟨_, rfl⟩
       replace H : (if 0 ≤ (ji45) then (if (ji45) < (l0.length : Int) then (if t381 = (wrap64 ((wrap64 (256 * (wrap64 (rd l0 (ji42))))) + (wrap64 (rd l0 (ji45))))) then ((spec_UnGuess.f k3 (wrap64 (Int.tdiv (wrap64 (rd l0 (ji12))) 32)) t375).bind fun bt384 => (if bt384.2 = true then ((spec_PackFrame.f k3 bt384.1).bind fun bt388 => (if a1 ≤ (wrap64 ((ji42) + 2)) then (if (wrap64 ((ji42) + 2)) ≤ (l0.length : Int) then (if (strOfNums bt388.1).toList = (strOfNums ((l0.take ((wrap64 ((ji42) + 2)) : Int).toNat).drop (a1 : Int).toNat)).toList then (some (bt384.1, wrap64 ((ji42) + 2), 0)) else (some (y360, a1, 5))) else (none)) else (none))) else (some (y360, a1, 5)))) else (some (y360, a1, 4))) else (none)) else (none)) = some (r1, r2, r3) := by first | (rw [hji45] at H; exact H) | (simp only [hji45] at H ⊢; exact H)
       (try rw [hji45] at A33)
       (try rw [hji45] at A41)
       have hji45w : (IntKind.i64.wrap ((ji42) + 1)) = ji45 := (i64_w _).trans hji45
       by_cases c46 : 0 ≤ (ji45)
       case neg =>
        rw [if_neg c46] at H
        exact absurd H (by simp)
       rw [if_pos c46] at H
       have c46b0 : decide (0 ≤ (ji45)) = true := zE c46
       clear c46
       by_cases c47 : (ji45) < (l0.length : Int)
       case neg =>
        rw [if_neg c47] at H
        exact absurd H (by simp)
       rw [if_pos c47] at H
       have c47b0 : decide ((ji45) < (l0.length : Int)) = true := zE c47
       clear c47
       by_cases c48 : t381 = (wrap64 ((wrap64 (256 * (wrap64 (rd l0 (ji42))))) + (wrap64 (rd l0 (ji45)))))
       case neg =>
        rw [if_neg c48] at H
        have c48b0 : (t381 == (wrap64 ((wrap64 (256 * (wrap64 (rd l0 (ji42))))) + (wrap64 (rd l0 (ji45)))))) = false := beq_eq_false_iff_ne.mpr c48
        have c48b1 : (t381 != (wrap64 ((wrap64 (256 * (wrap64 (rd l0 (ji42))))) + (wrap64 (rd l0 (ji45)))))) = true := bne_iff_ne.mpr c48
        (try (have c48b2 : (t381 == (IntKind.i64.wrap ((IntKind.i64.wrap (256 * (IntKind.i64.wrap (rd l0 (ji42))))) + (IntKind.i64.wrap (rd l0 (ji45)))))) = false := by simp only [i64_w]; simpa using c48))
        (try (have c48b3 : (t381 != (IntKind.i64.wrap ((IntKind.i64.wrap (256 * (IntKind.i64.wrap (rd l0 (ji42))))) + (IntKind.i64.wrap (rd l0 (ji45)))))) = true := by simp only [i64_w]; simpa using c48))
        simp only [Option.some.injEq, Prod.mk.injEq] at H
        obtain ⟨rfl, rfl, rfl⟩ := H
        obtain ⟨Ao81, co81, eo81⟩ := Kd.R_slice HO_11.out
        subst eo81
        go_wp2_with (first | (go_at_call 90; (with_reducible refine (spec_UnRice.calls k3 (Int.tmod (wrap64 (rd l0 (ji12))) 32) _ _ x11_3 (wrap64 ((wrap64 (rd l0 (ji9))) + 1)) t375 t376 true _ ?side1 ?side2 A33.out).mono ?_); (case side1 => repeat (first | exact (Kd.R_reads' HO_11.out).2.2 | (with_reducible first | refine zCa ?_ _ | refine zCn ?_ _ | refine zCd ?_))); (case side2 => exact (Kd.R_reads' HO_11.out).2.1); rintro e w82 ⟨v378, rfl, ho0, hb⟩; have n0_ := Aside0.mk (Kd.R_elder' (by (with_reducible repeat (first | apply zRa | apply zRn | apply zRd)); first | exact HO_7.out | (subst_vars; exact HO_7.out)) (Kd.R_base ho0) hb); have n1_ := Aside0.mk (Kd.R_elder' (by (with_reducible repeat (first | apply zRa | apply zRn | apply zRd)); first | exact HO_11.out | (subst_vars; exact HO_11.out)) (Kd.R_base ho0) hb); have n2_ := Aside0.mk (Kd.R_lower (Kd.R_new' (Kd.R_new' ho0 (Kd.R_lt (by (with_reducible repeat (first | apply zRa | apply zRn | apply zRd)); first | exact HO_7.out | (subst_vars; exact HO_7.out)))) (Kd.R_lt (by (with_reducible repeat (first | apply zRa | apply zRn | apply zRd)); first | exact HO_11.out | (subst_vars; exact HO_11.out)))) (below_size (by repeat (first | (with_reducible first | exact HB.out | apply zBa | apply zBn | apply zBd) | exact HB.out)))); have n3_ := Aside0.mk (below_step (by repeat (first | (with_reducible first | exact HB.out | apply zBa | apply zBn | apply zBd) | exact HB.out)) hb); clear HO_7; clear HO_11; clear HB; have HO_7 := n0_; have HO_11 := n1_; have HO379 := n2_; have HB := n3_; clear n0_ n1_ n2_ n3_; (try clear hb); (try clear hb2); (try clear hk); (try clear hi); (try clear ho0); obtain ⟨i083, hi083, _, hsz83, _⟩ := info_parts info5; obtain ⟨A83, hcut83, hA83, hC83⟩ := print_mid_of (P := Try.prog) (Value.int .u8) 0 22 5 .i64 .i64 Try.underlying22 hi083 hsz83 (some ad364) c0 l0 a1 (ji42) (zT (by first | (with_reducible assumption) | assumption)) (by first | omega | exact zT (by first | (with_reducible assumption) | assumption)) (zT (by first | (with_reducible assumption) | assumption)) HC0.out; have HR380 := Aside0.mk (Kd.C_of_reads (h1 := fun _ => rfl) (hA83 _ (Kd.reads_of_C HR0.out))); have HC380 := Aside0.mk hC83; clear hA83 hC83 hi083 hsz83) | (go_at_call 80; refine calls_of_args (args' := #[.slice A83 ((l0.take ((ji42) : Int).toNat).drop (a1 : Int).toNat).length (c0 - a1.toNat)]) (by first | (rw [show ((l0.take ((ji42) : Int).toNat).drop (a1 : Int).toNat).length = ((ji42).toNat - a1.toNat) from (by rw [List.length_drop, List.length_take]; have h_ : ((ji42) : Int) ≤ (l0.length : Int) := zT (by first | (with_reducible assumption) | assumption); omega)] <;> rfl) | rfl) ?_; (with_reducible refine (spec_Crc16.calls k3 _ _ ((l0.take ((ji42) : Int).toNat).drop (a1 : Int).toNat) t381 _ ?side1 ?side2 A41.out).mono ?_); (case side1 => repeat (first | exact (Kd.C_below HR380.out HB.out) | (with_reducible first | refine zCa ?_ _ | refine zCn ?_ _ | refine zCd ?_))); (case side2 => exact HC380.out); rintro e w' ⟨rfl, ⟨nd, rfl⟩⟩; (try first | exact ⟨rfl, _, zD _ _ _⟩ | exact ⟨rfl, _, Eq.trans (zD _ _ _) (congrArg (World.drewN _) (Nat.add_assoc _ _ _))⟩); have p382 : 0 ≤ ((ji42) : Int) := zT (by first | (with_reducible assumption) | assumption); have q382 : (ji42) < (l0.length : Int) := zT (by first | (with_reducible assumption) | assumption); obtain ⟨ad382, e382, hx382_0⟩ := Kd.at_int HR0.out (ji42) p382 q382; obtain rfl : ad364 = ad382 := (by injection e382); replace hx382_0 := (HB.out.cell (zW w _ hx382_0)).trans hx382_0; replace p382 := eq_true p382; replace q382 := eq_true q382; have p383 : 0 ≤ ((ji45) : Int) := zT (by first | (with_reducible assumption) | assumption); have q383 : (ji45) < (l0.length : Int) := zT (by first | (with_reducible assumption) | assumption); obtain ⟨ad383, e383, hx383_0⟩ := Kd.at_int HR0.out (ji45) p383 q383; obtain rfl : ad364 = ad383 := (by injection e383); replace hx383_0 := (HB.out.cell (zW w _ hx383_0)).trans hx383_0; replace p383 := eq_true p383; replace q383 := eq_true q383))
        repeat (go_quiet (first | (go_at_call 90; (with_reducible refine (spec_UnRice.calls k3 (Int.tmod (wrap64 (rd l0 (ji12))) 32) _ _ x11_3 (wrap64 ((wrap64 (rd l0 (ji9))) + 1)) t375 t376 true _ ?side1 ?side2 A33.out).mono ?_); (case side1 => repeat (first | exact (Kd.R_reads' HO_11.out).2.2 | (with_reducible first | refine zCa ?_ _ | refine zCn ?_ _ | refine zCd ?_))); (case side2 => exact (Kd.R_reads' HO_11.out).2.1); rintro e w82 ⟨v378, rfl, ho0, hb⟩; have n0_ := Aside0.mk (Kd.R_elder' (by (with_reducible repeat (first | apply zRa | apply zRn | apply zRd)); first | exact HO_7.out | (subst_vars; exact HO_7.out)) (Kd.R_base ho0) hb); have n1_ := Aside0.mk (Kd.R_elder' (by (with_reducible repeat (first | apply zRa | apply zRn | apply zRd)); first | exact HO_11.out | (subst_vars; exact HO_11.out)) (Kd.R_base ho0) hb); have n2_ := Aside0.mk (Kd.R_lower (Kd.R_new' (Kd.R_new' ho0 (Kd.R_lt (by (with_reducible repeat (first | apply zRa | apply zRn | apply zRd)); first | exact HO_7.out | (subst_vars; exact HO_7.out)))) (Kd.R_lt (by (with_reducible repeat (first | apply zRa | apply zRn | apply zRd)); first | exact HO_11.out | (subst_vars; exact HO_11.out)))) (below_size (by repeat (first | (with_reducible first | exact HB.out | apply zBa | apply zBn | apply zBd) | exact HB.out)))); have n3_ := Aside0.mk (below_step (by repeat (first | (with_reducible first | exact HB.out | apply zBa | apply zBn | apply zBd) | exact HB.out)) hb); clear HO_7; clear HO_11; clear HB; have HO_7 := n0_; have HO_11 := n1_; have HO379 := n2_; have HB := n3_; clear n0_ n1_ n2_ n3_; (try clear hb); (try clear hb2); (try clear hk); (try clear hi); (try clear ho0); obtain ⟨i083, hi083, _, hsz83, _⟩ := info_parts info5; obtain ⟨A83, hcut83, hA83, hC83⟩ := print_mid_of (P := Try.prog) (Value.int .u8) 0 22 5 .i64 .i64 Try.underlying22 hi083 hsz83 (some ad364) c0 l0 a1 (ji42) (zT (by first | (with_reducible assumption) | assumption)) (by first | omega | exact zT (by first | (with_reducible assumption) | assumption)) (zT (by first | (with_reducible assumption) | assumption)) HC0.out; have HR380 := Aside0.mk (Kd.C_of_reads (h1 := fun _ => rfl) (hA83 _ (Kd.reads_of_C HR0.out))); have HC380 := Aside0.mk hC83; clear hA83 hC83 hi083 hsz83) | (go_at_call 80; refine calls_of_args (args' := #[.slice A83 ((l0.take ((ji42) : Int).toNat).drop (a1 : Int).toNat).length (c0 - a1.toNat)]) (by first | (rw [show ((l0.take ((ji42) : Int).toNat).drop (a1 : Int).toNat).length = ((ji42).toNat - a1.toNat) from (by rw [List.length_drop, List.length_take]; have h_ : ((ji42) : Int) ≤ (l0.length : Int) := zT (by first | (with_reducible assumption) | assumption); omega)] <;> rfl) | rfl) ?_; (with_reducible refine (spec_Crc16.calls k3 _ _ ((l0.take ((ji42) : Int).toNat).drop (a1 : Int).toNat) t381 _ ?side1 ?side2 A41.out).mono ?_); (case side1 => repeat (first | exact (Kd.C_below HR380.out HB.out) | (with_reducible first | refine zCa ?_ _ | refine zCn ?_ _ | refine zCd ?_))); (case side2 => exact HC380.out); rintro e w' ⟨rfl, ⟨nd, rfl⟩⟩; (try first | exact ⟨rfl, _, zD _ _ _⟩ | exact ⟨rfl, _, Eq.trans (zD _ _ _) (congrArg (World.drewN _) (Nat.add_assoc _ _ _))⟩); have p382 : 0 ≤ ((ji42) : Int) := zT (by first | (with_reducible assumption) | assumption); have q382 : (ji42) < (l0.length : Int) := zT (by first | (with_reducible assumption) | assumption); obtain ⟨ad382, e382, hx382_0⟩ := Kd.at_int HR0.out (ji42) p382 q382; obtain rfl : ad364 = ad382 := (by injection e382); replace hx382_0 := (HB.out.cell (zW w _ hx382_0)).trans hx382_0; replace p382 := eq_true p382; replace q382 := eq_true q382; have p383 : 0 ≤ ((ji45) : Int) := zT (by first | (with_reducible assumption) | assumption); have q383 : (ji45) < (l0.length : Int) := zT (by first | (with_reducible assumption) | assumption); obtain ⟨ad383, e383, hx383_0⟩ := Kd.at_int HR0.out (ji45) p383 q383; obtain rfl : ad364 = ad383 := (by injection e383); replace hx383_0 := (HB.out.cell (zW w _ hx383_0)).trans hx383_0; replace p383 := eq_true p383; replace q383 := eq_true q383)); try go_wp2_with (first | (go_at_call 90; (with_reducible refine (spec_UnRice.calls k3 (Int.tmod (wrap64 (rd l0 (ji12))) 32) _ _ x11_3 (wrap64 ((wrap64 (rd l0 (ji9))) + 1)) t375 t376 true _ ?side1 ?side2 A33.out).mono ?_); (case side1 => repeat (first | exact (Kd.R_reads' HO_11.out).2.2 | (with_reducible first | refine zCa ?_ _ | refine zCn ?_ _ | refine zCd ?_))); (case side2 => exact (Kd.R_reads' HO_11.out).2.1); rintro e w82 ⟨v378, rfl, ho0, hb⟩; have n0_ := Aside0.mk (Kd.R_elder' (by (with_reducible repeat (first | apply zRa | apply zRn | apply zRd)); first | exact HO_7.out | (subst_vars; exact HO_7.out)) (Kd.R_base ho0) hb); have n1_ := Aside0.mk (Kd.R_elder' (by (with_reducible repeat (first | apply zRa | apply zRn | apply zRd)); first | exact HO_11.out | (subst_vars; exact HO_11.out)) (Kd.R_base ho0) hb); have n2_ := Aside0.mk (Kd.R_lower (Kd.R_new' (Kd.R_new' ho0 (Kd.R_lt (by (with_reducible repeat (first | apply zRa | apply zRn | apply zRd)); first | exact HO_7.out | (subst_vars; exact HO_7.out)))) (Kd.R_lt (by (with_reducible repeat (first | apply zRa | apply zRn | apply zRd)); first | exact HO_11.out | (subst_vars; exact HO_11.out)))) (below_size (by repeat (first | (with_reducible first | exact HB.out | apply zBa | apply zBn | apply zBd) | exact HB.out)))); have n3_ := Aside0.mk (below_step (by repeat (first | (with_reducible first | exact HB.out | apply zBa | apply zBn | apply zBd) | exact HB.out)) hb); clear HO_7; clear HO_11; clear HB; have HO_7 := n0_; have HO_11 := n1_; have HO379 := n2_; have HB := n3_; clear n0_ n1_ n2_ n3_; (try clear hb); (try clear hb2); (try clear hk); (try clear hi); (try clear ho0); obtain ⟨i083, hi083, _, hsz83, _⟩ := info_parts info5; obtain ⟨A83, hcut83, hA83, hC83⟩ := print_mid_of (P := Try.prog) (Value.int .u8) 0 22 5 .i64 .i64 Try.underlying22 hi083 hsz83 (some ad364) c0 l0 a1 (ji42) (zT (by first | (with_reducible assumption) | assumption)) (by first | omega | exact zT (by first | (with_reducible assumption) | assumption)) (zT (by first | (with_reducible assumption) | assumption)) HC0.out; have HR380 := Aside0.mk (Kd.C_of_reads (h1 := fun _ => rfl) (hA83 _ (Kd.reads_of_C HR0.out))); have HC380 := Aside0.mk hC83; clear hA83 hC83 hi083 hsz83) | (go_at_call 80; refine calls_of_args (args' := #[.slice A83 ((l0.take ((ji42) : Int).toNat).drop (a1 : Int).toNat).length (c0 - a1.toNat)]) (by first | (rw [show ((l0.take ((ji42) : Int).toNat).drop (a1 : Int).toNat).length = ((ji42).toNat - a1.toNat) from (by rw [List.length_drop, List.length_take]; have h_ : ((ji42) : Int) ≤ (l0.length : Int) := zT (by first | (with_reducible assumption) | assumption); omega)] <;> rfl) | rfl) ?_; (with_reducible refine (spec_Crc16.calls k3 _ _ ((l0.take ((ji42) : Int).toNat).drop (a1 : Int).toNat) t381 _ ?side1 ?side2 A41.out).mono ?_); (case side1 => repeat (first | exact (Kd.C_below HR380.out HB.out) | (with_reducible first | refine zCa ?_ _ | refine zCn ?_ _ | refine zCd ?_))); (case side2 => exact HC380.out); rintro e w' ⟨rfl, ⟨nd, rfl⟩⟩; (try first | exact ⟨rfl, _, zD _ _ _⟩ | exact ⟨rfl, _, Eq.trans (zD _ _ _) (congrArg (World.drewN _) (Nat.add_assoc _ _ _))⟩); have p382 : 0 ≤ ((ji42) : Int) := zT (by first | (with_reducible assumption) | assumption); have q382 : (ji42) < (l0.length : Int) := zT (by first | (with_reducible assumption) | assumption); obtain ⟨ad382, e382, hx382_0⟩ := Kd.at_int HR0.out (ji42) p382 q382; obtain rfl : ad364 = ad382 := (by injection e382); replace hx382_0 := (HB.out.cell (zW w _ hx382_0)).trans hx382_0; replace p382 := eq_true p382; replace q382 := eq_true q382; have p383 : 0 ≤ ((ji45) : Int) := zT (by first | (with_reducible assumption) | assumption); have q383 : (ji45) < (l0.length : Int) := zT (by first | (with_reducible assumption) | assumption); obtain ⟨ad383, e383, hx383_0⟩ := Kd.at_int HR0.out (ji45) p383 q383; obtain rfl : ad364 = ad383 := (by injection e383); replace hx383_0 := (HB.out.cell (zW w _ hx383_0)).trans hx383_0; replace p383 := eq_true p383; replace q383 := eq_true q383)))
        go_ret3
        exact ⟨_, by first | rfl | (simp [errW_none, errW_some] <;> rfl) | (simp only [← hji9, ← hji12, ← hji42, ← hji45]; first | rfl | (simp [errW_none, errW_some] <;> rfl)) | (simp [*, errW_none, errW_some] <;> rfl), by (with_reducible repeat (first | apply zRa | apply zRn | apply zRd)); first | exact Kd.R_mono HO_7.out (fun _ hk => trivial) | (subst_vars; exact Kd.R_mono HO_7.out (fun _ hk => trivial)), by repeat (first | (with_reducible first | exact HB.out | apply zBa | apply zBn | apply zBd) | exact HB.out)⟩
       rw [if_pos c48] at H
       have c48b0 : (t381 == (wrap64 ((wrap64 (256 * (wrap64 (rd l0 (ji42))))) + (wrap64 (rd l0 (ji45)))))) = true := beq_iff_eq.mpr c48
       have c48b1 : (t381 != (wrap64 ((wrap64 (256 * (wrap64 (rd l0 (ji42))))) + (wrap64 (rd l0 (ji45)))))) = false := bne_eq_false_iff_eq.mpr c48
       (try (have c48b2 : (t381 == (IntKind.i64.wrap ((IntKind.i64.wrap (256 * (IntKind.i64.wrap (rd l0 (ji42))))) + (IntKind.i64.wrap (rd l0 (ji45)))))) = true := by simp only [i64_w]; simpa using c48))
       (try (have c48b3 : (t381 != (IntKind.i64.wrap ((IntKind.i64.wrap (256 * (IntKind.i64.wrap (rd l0 (ji42))))) + (IntKind.i64.wrap (rd l0 (ji45)))))) = false := by simp only [i64_w]; simpa using c48))
       clear c48
       replace H := Option.bind_eq_some_iff.mp H
       obtain ⟨⟨t384, t385⟩, A490, H⟩ := H
       replace H : (if t385 = true then ((spec_PackFrame.f k3 t384).bind fun bt388 => (if a1 ≤ (wrap64 ((ji42) + 2)) then (if (wrap64 ((ji42) + 2)) ≤ (l0.length : Int) then (if (strOfNums bt388.1).toList = (strOfNums ((l0.take ((wrap64 ((ji42) + 2)) : Int).toNat).drop (a1 : Int).toNat)).toList then (some (t384, wrap64 ((ji42) + 2), 0)) else (some (y360, a1, 5))) else (none)) else (none))) else (some (y360, a1, 5))) = some (r1, r2, r3) := H
       have A49 := Aside0.mk A490
       clear A490
       by_cases c50 : t385 = true
       case neg =>
        replace c50 := Bool.eq_false_iff.mpr c50
        subst c50
        have H1 : (some (y360, a1, 5)) = some (r1, r2, r3) := by rw [if_neg (show ¬ (false = true) by decide)] at H; exact H
        clear H
        have H := H1
        clear H1
        simp only [Option.some.injEq, Prod.mk.injEq] at H
        obtain ⟨rfl, rfl, rfl⟩ := H
        obtain ⟨Ao76, co76, eo76⟩ := Kd.R_slice HO_11.out
        subst eo76
        go_wp2_with (first | (go_at_call 90; (with_reducible refine (spec_UnRice.calls k3 (Int.tmod (wrap64 (rd l0 (ji12))) 32) _ _ x11_3 (wrap64 ((wrap64 (rd l0 (ji9))) + 1)) t375 t376 true _ ?side1 ?side2 A33.out).mono ?_); (case side1 => repeat (first | exact (Kd.R_reads' HO_11.out).2.2 | (with_reducible first | refine zCa ?_ _ | refine zCn ?_ _ | refine zCd ?_))); (case side2 => exact (Kd.R_reads' HO_11.out).2.1); rintro e w77 ⟨v378, rfl, ho0, hb⟩; have n0_ := Aside0.mk (Kd.R_elder' (by (with_reducible repeat (first | apply zRa | apply zRn | apply zRd)); first | exact HO_7.out | (subst_vars; exact HO_7.out)) (Kd.R_base ho0) hb); have n1_ := Aside0.mk (Kd.R_elder' (by (with_reducible repeat (first | apply zRa | apply zRn | apply zRd)); first | exact HO_11.out | (subst_vars; exact HO_11.out)) (Kd.R_base ho0) hb); have n2_ := Aside0.mk (Kd.R_lower (Kd.R_new' (Kd.R_new' ho0 (Kd.R_lt (by (with_reducible repeat (first | apply zRa | apply zRn | apply zRd)); first | exact HO_7.out | (subst_vars; exact HO_7.out)))) (Kd.R_lt (by (with_reducible repeat (first | apply zRa | apply zRn | apply zRd)); first | exact HO_11.out | (subst_vars; exact HO_11.out)))) (below_size (by repeat (first | (with_reducible first | exact HB.out | apply zBa | apply zBn | apply zBd) | exact HB.out)))); have n3_ := Aside0.mk (below_step (by repeat (first | (with_reducible first | exact HB.out | apply zBa | apply zBn | apply zBd) | exact HB.out)) hb); clear HO_7; clear HO_11; clear HB; have HO_7 := n0_; have HO_11 := n1_; have HO379 := n2_; have HB := n3_; clear n0_ n1_ n2_ n3_; (try clear hb); (try clear hb2); (try clear hk); (try clear hi); (try clear ho0); obtain ⟨i078, hi078, _, hsz78, _⟩ := info_parts info5; obtain ⟨A78, hcut78, hA78, hC78⟩ := print_mid_of (P := Try.prog) (Value.int .u8) 0 22 5 .i64 .i64 Try.underlying22 hi078 hsz78 (some ad364) c0 l0 a1 (ji42) (zT (by first | (with_reducible assumption) | assumption)) (by first | omega | exact zT (by first | (with_reducible assumption) | assumption)) (zT (by first | (with_reducible assumption) | assumption)) HC0.out; have HR380 := Aside0.mk (Kd.C_of_reads (h1 := fun _ => rfl) (hA78 _ (Kd.reads_of_C HR0.out))); have HC380 := Aside0.mk hC78; clear hA78 hC78 hi078 hsz78) | (go_at_call 80; refine calls_of_args (args' := #[.slice A78 ((l0.take ((ji42) : Int).toNat).drop (a1 : Int).toNat).length (c0 - a1.toNat)]) (by first | (rw [show ((l0.take ((ji42) : Int).toNat).drop (a1 : Int).toNat).length = ((ji42).toNat - a1.toNat) from (by rw [List.length_drop, List.length_take]; have h_ : ((ji42) : Int) ≤ (l0.length : Int) := zT (by first | (with_reducible assumption) | assumption); omega)] <;> rfl) | rfl) ?_; (with_reducible refine (spec_Crc16.calls k3 _ _ ((l0.take ((ji42) : Int).toNat).drop (a1 : Int).toNat) t381 _ ?side1 ?side2 A41.out).mono ?_); (case side1 => repeat (first | exact (Kd.C_below HR380.out HB.out) | (with_reducible first | refine zCa ?_ _ | refine zCn ?_ _ | refine zCd ?_))); (case side2 => exact HC380.out); rintro e w' ⟨rfl, ⟨nd, rfl⟩⟩; (try first | exact ⟨rfl, _, zD _ _ _⟩ | exact ⟨rfl, _, Eq.trans (zD _ _ _) (congrArg (World.drewN _) (Nat.add_assoc _ _ _))⟩); have p382 : 0 ≤ ((ji42) : Int) := zT (by first | (with_reducible assumption) | assumption); have q382 : (ji42) < (l0.length : Int) := zT (by first | (with_reducible assumption) | assumption); obtain ⟨ad382, e382, hx382_0⟩ := Kd.at_int HR0.out (ji42) p382 q382; obtain rfl : ad364 = ad382 := (by injection e382); replace hx382_0 := (HB.out.cell (zW w _ hx382_0)).trans hx382_0; replace p382 := eq_true p382; replace q382 := eq_true q382; have p383 : 0 ≤ ((ji45) : Int) := zT (by first | (with_reducible assumption) | assumption); have q383 : (ji45) < (l0.length : Int) := zT (by first | (with_reducible assumption) | assumption); obtain ⟨ad383, e383, hx383_0⟩ := Kd.at_int HR0.out (ji45) p383 q383; obtain rfl : ad364 = ad383 := (by injection e383); replace hx383_0 := (HB.out.cell (zW w _ hx383_0)).trans hx383_0; replace p383 := eq_true p383; replace q383 := eq_true q383; obtain ⟨Ao79, co79, eo79⟩ := Kd.R_slice HO379.out; subst eo79) | (go_at_call 20; (with_reducible refine (spec_UnGuess.calls k3 (wrap64 (Int.tdiv (wrap64 (rd l0 (ji12))) 32)) _ _ t375 t384 false _ ?side1 ?side2 A49.out).mono ?_); (case side1 => repeat (first | exact (Kd.R_reads' HO379.out).2.2 | (with_reducible first | refine zCa ?_ _ | refine zCn ?_ _ | refine zCd ?_))); (case side2 => exact (Kd.R_reads' HO379.out).2.1); rintro e w80 ⟨v386, rfl, ho0, hb⟩; have n0_ := Aside0.mk (Kd.R_elder' (by (with_reducible repeat (first | apply zRa | apply zRn | apply zRd)); first | exact HO_7.out | (subst_vars; exact HO_7.out)) (Kd.R_base ho0) hb); have n1_ := Aside0.mk (Kd.R_elder' (by (with_reducible repeat (first | apply zRa | apply zRn | apply zRd)); first | exact HO_11.out | (subst_vars; exact HO_11.out)) (Kd.R_base ho0) hb); have n2_ := Aside0.mk (Kd.R_elder' (by (with_reducible repeat (first | apply zRa | apply zRn | apply zRd)); first | exact HO379.out | (subst_vars; exact HO379.out)) (Kd.R_base ho0) hb); have n3_ := Aside0.mk (Kd.R_lower (Kd.R_new' (Kd.R_new' (Kd.R_new' ho0 (Kd.R_lt (by (with_reducible repeat (first | apply zRa | apply zRn | apply zRd)); first | exact HO_7.out | (subst_vars; exact HO_7.out)))) (Kd.R_lt (by (with_reducible repeat (first | apply zRa | apply zRn | apply zRd)); first | exact HO_11.out | (subst_vars; exact HO_11.out)))) (Kd.R_lt (by (with_reducible repeat (first | apply zRa | apply zRn | apply zRd)); first | exact HO379.out | (subst_vars; exact HO379.out)))) (below_size (by repeat (first | (with_reducible first | exact HB.out | apply zBa | apply zBn | apply zBd) | exact HB.out)))); have n4_ := Aside0.mk (below_step (by repeat (first | (with_reducible first | exact HB.out | apply zBa | apply zBn | apply zBd) | exact HB.out)) hb); clear HO_7; clear HO_11; clear HO379; clear HB; have HO_7 := n0_; have HO_11 := n1_; have HO379 := n2_; have HO387 := n3_; have HB := n4_; clear n0_ n1_ n2_ n3_ n4_; (try clear hb); (try clear hb2); (try clear hk); (try clear hi); (try clear ho0)))
        repeat (go_quiet (first | (go_at_call 90; (with_reducible refine (spec_UnRice.calls k3 (Int.tmod (wrap64 (rd l0 (ji12))) 32) _ _ x11_3 (wrap64 ((wrap64 (rd l0 (ji9))) + 1)) t375 t376 true _ ?side1 ?side2 A33.out).mono ?_); (case side1 => repeat (first | exact (Kd.R_reads' HO_11.out).2.2 | (with_reducible first | refine zCa ?_ _ | refine zCn ?_ _ | refine zCd ?_))); (case side2 => exact (Kd.R_reads' HO_11.out).2.1); rintro e w77 ⟨v378, rfl, ho0, hb⟩; have n0_ := Aside0.mk (Kd.R_elder' (by (with_reducible repeat (first | apply zRa | apply zRn | apply zRd)); first | exact HO_7.out | (subst_vars; exact HO_7.out)) (Kd.R_base ho0) hb); have n1_ := Aside0.mk (Kd.R_elder' (by (with_reducible repeat (first | apply zRa | apply zRn | apply zRd)); first | exact HO_11.out | (subst_vars; exact HO_11.out)) (Kd.R_base ho0) hb); have n2_ := Aside0.mk (Kd.R_lower (Kd.R_new' (Kd.R_new' ho0 (Kd.R_lt (by (with_reducible repeat (first | apply zRa | apply zRn | apply zRd)); first | exact HO_7.out | (subst_vars; exact HO_7.out)))) (Kd.R_lt (by (with_reducible repeat (first | apply zRa | apply zRn | apply zRd)); first | exact HO_11.out | (subst_vars; exact HO_11.out)))) (below_size (by repeat (first | (with_reducible first | exact HB.out | apply zBa | apply zBn | apply zBd) | exact HB.out)))); have n3_ := Aside0.mk (below_step (by repeat (first | (with_reducible first | exact HB.out | apply zBa | apply zBn | apply zBd) | exact HB.out)) hb); clear HO_7; clear HO_11; clear HB; have HO_7 := n0_; have HO_11 := n1_; have HO379 := n2_; have HB := n3_; clear n0_ n1_ n2_ n3_; (try clear hb); (try clear hb2); (try clear hk); (try clear hi); (try clear ho0); obtain ⟨i078, hi078, _, hsz78, _⟩ := info_parts info5; obtain ⟨A78, hcut78, hA78, hC78⟩ := print_mid_of (P := Try.prog) (Value.int .u8) 0 22 5 .i64 .i64 Try.underlying22 hi078 hsz78 (some ad364) c0 l0 a1 (ji42) (zT (by first | (with_reducible assumption) | assumption)) (by first | omega | exact zT (by first | (with_reducible assumption) | assumption)) (zT (by first | (with_reducible assumption) | assumption)) HC0.out; have HR380 := Aside0.mk (Kd.C_of_reads (h1 := fun _ => rfl) (hA78 _ (Kd.reads_of_C HR0.out))); have HC380 := Aside0.mk hC78; clear hA78 hC78 hi078 hsz78) | (go_at_call 80; refine calls_of_args (args' := #[.slice A78 ((l0.take ((ji42) : Int).toNat).drop (a1 : Int).toNat).length (c0 - a1.toNat)]) (by first | (rw [show ((l0.take ((ji42) : Int).toNat).drop (a1 : Int).toNat).length = ((ji42).toNat - a1.toNat) from (by rw [List.length_drop, List.length_take]; have h_ : ((ji42) : Int) ≤ (l0.length : Int) := zT (by first | (with_reducible assumption) | assumption); omega)] <;> rfl) | rfl) ?_; (with_reducible refine (spec_Crc16.calls k3 _ _ ((l0.take ((ji42) : Int).toNat).drop (a1 : Int).toNat) t381 _ ?side1 ?side2 A41.out).mono ?_); (case side1 => repeat (first | exact (Kd.C_below HR380.out HB.out) | (with_reducible first | refine zCa ?_ _ | refine zCn ?_ _ | refine zCd ?_))); (case side2 => exact HC380.out); rintro e w' ⟨rfl, ⟨nd, rfl⟩⟩; (try first | exact ⟨rfl, _, zD _ _ _⟩ | exact ⟨rfl, _, Eq.trans (zD _ _ _) (congrArg (World.drewN _) (Nat.add_assoc _ _ _))⟩); have p382 : 0 ≤ ((ji42) : Int) := zT (by first | (with_reducible assumption) | assumption); have q382 : (ji42) < (l0.length : Int) := zT (by first | (with_reducible assumption) | assumption); obtain ⟨ad382, e382, hx382_0⟩ := Kd.at_int HR0.out (ji42) p382 q382; obtain rfl : ad364 = ad382 := (by injection e382); replace hx382_0 := (HB.out.cell (zW w _ hx382_0)).trans hx382_0; replace p382 := eq_true p382; replace q382 := eq_true q382; have p383 : 0 ≤ ((ji45) : Int) := zT (by first | (with_reducible assumption) | assumption); have q383 : (ji45) < (l0.length : Int) := zT (by first | (with_reducible assumption) | assumption); obtain ⟨ad383, e383, hx383_0⟩ := Kd.at_int HR0.out (ji45) p383 q383; obtain rfl : ad364 = ad383 := (by injection e383); replace hx383_0 := (HB.out.cell (zW w _ hx383_0)).trans hx383_0; replace p383 := eq_true p383; replace q383 := eq_true q383; obtain ⟨Ao79, co79, eo79⟩ := Kd.R_slice HO379.out; subst eo79) | (go_at_call 20; (with_reducible refine (spec_UnGuess.calls k3 (wrap64 (Int.tdiv (wrap64 (rd l0 (ji12))) 32)) _ _ t375 t384 false _ ?side1 ?side2 A49.out).mono ?_); (case side1 => repeat (first | exact (Kd.R_reads' HO379.out).2.2 | (with_reducible first | refine zCa ?_ _ | refine zCn ?_ _ | refine zCd ?_))); (case side2 => exact (Kd.R_reads' HO379.out).2.1); rintro e w80 ⟨v386, rfl, ho0, hb⟩; have n0_ := Aside0.mk (Kd.R_elder' (by (with_reducible repeat (first | apply zRa | apply zRn | apply zRd)); first | exact HO_7.out | (subst_vars; exact HO_7.out)) (Kd.R_base ho0) hb); have n1_ := Aside0.mk (Kd.R_elder' (by (with_reducible repeat (first | apply zRa | apply zRn | apply zRd)); first | exact HO_11.out | (subst_vars; exact HO_11.out)) (Kd.R_base ho0) hb); have n2_ := Aside0.mk (Kd.R_elder' (by (with_reducible repeat (first | apply zRa | apply zRn | apply zRd)); first | exact HO379.out | (subst_vars; exact HO379.out)) (Kd.R_base ho0) hb); have n3_ := Aside0.mk (Kd.R_lower (Kd.R_new' (Kd.R_new' (Kd.R_new' ho0 (Kd.R_lt (by (with_reducible repeat (first | apply zRa | apply zRn | apply zRd)); first | exact HO_7.out | (subst_vars; exact HO_7.out)))) (Kd.R_lt (by (with_reducible repeat (first | apply zRa | apply zRn | apply zRd)); first | exact HO_11.out | (subst_vars; exact HO_11.out)))) (Kd.R_lt (by (with_reducible repeat (first | apply zRa | apply zRn | apply zRd)); first | exact HO379.out | (subst_vars; exact HO379.out)))) (below_size (by repeat (first | (with_reducible first | exact HB.out | apply zBa | apply zBn | apply zBd) | exact HB.out)))); have n4_ := Aside0.mk (below_step (by repeat (first | (with_reducible first | exact HB.out | apply zBa | apply zBn | apply zBd) | exact HB.out)) hb); clear HO_7; clear HO_11; clear HO379; clear HB; have HO_7 := n0_; have HO_11 := n1_; have HO379 := n2_; have HO387 := n3_; have HB := n4_; clear n0_ n1_ n2_ n3_ n4_; (try clear hb); (try clear hb2); (try clear hk); (try clear hi); (try clear ho0))); try go_wp2_with (first | (go_at_call 90; (with_reducible refine (spec_UnRice.calls k3 (Int.tmod (wrap64 (rd l0 (ji12))) 32) _ _ x11_3 (wrap64 ((wrap64 (rd l0 (ji9))) + 1)) t375 t376 true _ ?side1 ?side2 A33.out).mono ?_); (case side1 => repeat (first | exact (Kd.R_reads' HO_11.out).2.2 | (with_reducible first | refine zCa ?_ _ | refine zCn ?_ _ | refine zCd ?_))); (case side2 => exact (Kd.R_reads' HO_11.out).2.1); rintro e w77 ⟨v378, rfl, ho0, hb⟩; have n0_ := Aside0.mk (Kd.R_elder' (by (with_reducible repeat (first | apply zRa | apply zRn | apply zRd)); first | exact HO_7.out | (subst_vars; exact HO_7.out)) (Kd.R_base ho0) hb); have n1_ := Aside0.mk (Kd.R_elder' (by (with_reducible repeat (first | apply zRa | apply zRn | apply zRd)); first | exact HO_11.out | (subst_vars; exact HO_11.out)) (Kd.R_base ho0) hb); have n2_ := Aside0.mk (Kd.R_lower (Kd.R_new' (Kd.R_new' ho0 (Kd.R_lt (by (with_reducible repeat (first | apply zRa | apply zRn | apply zRd)); first | exact HO_7.out | (subst_vars; exact HO_7.out)))) (Kd.R_lt (by (with_reducible repeat (first | apply zRa | apply zRn | apply zRd)); first | exact HO_11.out | (subst_vars; exact HO_11.out)))) (below_size (by repeat (first | (with_reducible first | exact HB.out | apply zBa | apply zBn | apply zBd) | exact HB.out)))); have n3_ := Aside0.mk (below_step (by repeat (first | (with_reducible first | exact HB.out | apply zBa | apply zBn | apply zBd) | exact HB.out)) hb); clear HO_7; clear HO_11; clear HB; have HO_7 := n0_; have HO_11 := n1_; have HO379 := n2_; have HB := n3_; clear n0_ n1_ n2_ n3_; (try clear hb); (try clear hb2); (try clear hk); (try clear hi); (try clear ho0); obtain ⟨i078, hi078, _, hsz78, _⟩ := info_parts info5; obtain ⟨A78, hcut78, hA78, hC78⟩ := print_mid_of (P := Try.prog) (Value.int .u8) 0 22 5 .i64 .i64 Try.underlying22 hi078 hsz78 (some ad364) c0 l0 a1 (ji42) (zT (by first | (with_reducible assumption) | assumption)) (by first | omega | exact zT (by first | (with_reducible assumption) | assumption)) (zT (by first | (with_reducible assumption) | assumption)) HC0.out; have HR380 := Aside0.mk (Kd.C_of_reads (h1 := fun _ => rfl) (hA78 _ (Kd.reads_of_C HR0.out))); have HC380 := Aside0.mk hC78; clear hA78 hC78 hi078 hsz78) | (go_at_call 80; refine calls_of_args (args' := #[.slice A78 ((l0.take ((ji42) : Int).toNat).drop (a1 : Int).toNat).length (c0 - a1.toNat)]) (by first | (rw [show ((l0.take ((ji42) : Int).toNat).drop (a1 : Int).toNat).length = ((ji42).toNat - a1.toNat) from (by rw [List.length_drop, List.length_take]; have h_ : ((ji42) : Int) ≤ (l0.length : Int) := zT (by first | (with_reducible assumption) | assumption); omega)] <;> rfl) | rfl) ?_; (with_reducible refine (spec_Crc16.calls k3 _ _ ((l0.take ((ji42) : Int).toNat).drop (a1 : Int).toNat) t381 _ ?side1 ?side2 A41.out).mono ?_); (case side1 => repeat (first | exact (Kd.C_below HR380.out HB.out) | (with_reducible first | refine zCa ?_ _ | refine zCn ?_ _ | refine zCd ?_))); (case side2 => exact HC380.out); rintro e w' ⟨rfl, ⟨nd, rfl⟩⟩; (try first | exact ⟨rfl, _, zD _ _ _⟩ | exact ⟨rfl, _, Eq.trans (zD _ _ _) (congrArg (World.drewN _) (Nat.add_assoc _ _ _))⟩); have p382 : 0 ≤ ((ji42) : Int) := zT (by first | (with_reducible assumption) | assumption); have q382 : (ji42) < (l0.length : Int) := zT (by first | (with_reducible assumption) | assumption); obtain ⟨ad382, e382, hx382_0⟩ := Kd.at_int HR0.out (ji42) p382 q382; obtain rfl : ad364 = ad382 := (by injection e382); replace hx382_0 := (HB.out.cell (zW w _ hx382_0)).trans hx382_0; replace p382 := eq_true p382; replace q382 := eq_true q382; have p383 : 0 ≤ ((ji45) : Int) := zT (by first | (with_reducible assumption) | assumption); have q383 : (ji45) < (l0.length : Int) := zT (by first | (with_reducible assumption) | assumption); obtain ⟨ad383, e383, hx383_0⟩ := Kd.at_int HR0.out (ji45) p383 q383; obtain rfl : ad364 = ad383 := (by injection e383); replace hx383_0 := (HB.out.cell (zW w _ hx383_0)).trans hx383_0; replace p383 := eq_true p383; replace q383 := eq_true q383; obtain ⟨Ao79, co79, eo79⟩ := Kd.R_slice HO379.out; subst eo79) | (go_at_call 20; (with_reducible refine (spec_UnGuess.calls k3 (wrap64 (Int.tdiv (wrap64 (rd l0 (ji12))) 32)) _ _ t375 t384 false _ ?side1 ?side2 A49.out).mono ?_); (case side1 => repeat (first | exact (Kd.R_reads' HO379.out).2.2 | (with_reducible first | refine zCa ?_ _ | refine zCn ?_ _ | refine zCd ?_))); (case side2 => exact (Kd.R_reads' HO379.out).2.1); rintro e w80 ⟨v386, rfl, ho0, hb⟩; have n0_ := Aside0.mk (Kd.R_elder' (by (with_reducible repeat (first | apply zRa | apply zRn | apply zRd)); first | exact HO_7.out | (subst_vars; exact HO_7.out)) (Kd.R_base ho0) hb); have n1_ := Aside0.mk (Kd.R_elder' (by (with_reducible repeat (first | apply zRa | apply zRn | apply zRd)); first | exact HO_11.out | (subst_vars; exact HO_11.out)) (Kd.R_base ho0) hb); have n2_ := Aside0.mk (Kd.R_elder' (by (with_reducible repeat (first | apply zRa | apply zRn | apply zRd)); first | exact HO379.out | (subst_vars; exact HO379.out)) (Kd.R_base ho0) hb); have n3_ := Aside0.mk (Kd.R_lower (Kd.R_new' (Kd.R_new' (Kd.R_new' ho0 (Kd.R_lt (by (with_reducible repeat (first | apply zRa | apply zRn | apply zRd)); first | exact HO_7.out | (subst_vars; exact HO_7.out)))) (Kd.R_lt (by (with_reducible repeat (first | apply zRa | apply zRn | apply zRd)); first | exact HO_11.out | (subst_vars; exact HO_11.out)))) (Kd.R_lt (by (with_reducible repeat (first | apply zRa | apply zRn | apply zRd)); first | exact HO379.out | (subst_vars; exact HO379.out)))) (below_size (by repeat (first | (with_reducible first | exact HB.out | apply zBa | apply zBn | apply zBd) | exact HB.out)))); have n4_ := Aside0.mk (below_step (by repeat (first | (with_reducible first | exact HB.out | apply zBa | apply zBn | apply zBd) | exact HB.out)) hb); clear HO_7; clear HO_11; clear HO379; clear HB; have HO_7 := n0_; have HO_11 := n1_; have HO379 := n2_; have HO387 := n3_; have HB := n4_; clear n0_ n1_ n2_ n3_ n4_; (try clear hb); (try clear hb2); (try clear hk); (try clear hi); (try clear ho0))))
        go_ret3
        exact ⟨_, by first | rfl | (simp [errW_none, errW_some] <;> rfl) | (simp only [← hji9, ← hji12, ← hji42, ← hji45]; first | rfl | (simp [errW_none, errW_some] <;> rfl)) | (simp [*, errW_none, errW_some] <;> rfl), by (with_reducible repeat (first | apply zRa | apply zRn | apply zRd)); first | exact Kd.R_mono HO_7.out (fun _ hk => trivial) | (subst_vars; exact Kd.R_mono HO_7.out (fun _ hk => trivial)), by repeat (first | (with_reducible first | exact HB.out | apply zBa | apply zBn | apply zBd) | exact HB.out)⟩
       subst c50
       have H1 : ((spec_PackFrame.f k3 t384).bind fun bt388 => (if a1 ≤ (wrap64 ((ji42) + 2)) then (if (wrap64 ((ji42) + 2)) ≤ (l0.length : Int) then (if (strOfNums bt388.1).toList = (strOfNums ((l0.take ((wrap64 ((ji42) + 2)) : Int).toNat).drop (a1 : Int).toNat)).toList then (some (t384, wrap64 ((ji42) + 2), 0)) else (some (y360, a1, 5))) else (none)) else (none))) = some (r1, r2, r3) := by rw [if_pos rfl] at H; exact H
       clear H
       have H := H1
       clear H1
       replace H := Option.bind_eq_some_iff.mp H
       obtain ⟨⟨t388, t389⟩, A510, H⟩ := H
       replace H : (if a1 ≤ (wrap64 ((ji42) + 2)) then (if (wrap64 ((ji42) + 2)) ≤ (l0.length : Int) then (if (strOfNums t388).toList = (strOfNums ((l0.take ((wrap64 ((ji42) + 2)) : Int).toNat).drop (a1 : Int).toNat)).toList then (some (t384, wrap64 ((ji42) + 2), 0)) else (some (y360, a1, 5))) else (none)) else (none)) = some (r1, r2, r3) := H
       have A51 := Aside0.mk A510
       clear A510
       have c52b0 := eq_true (zT (by first | (with_reducible assumption) | assumption) : 0 ≤ a1)
       by_cases c53 : a1 ≤ (wrap64 ((ji42) + 2))
       case neg =>
        rw [if_neg c53] at H
        exact absurd H (by simp)
       rw [if_pos c53] at H
       have c53b0 := eq_true c53
       have c53b1 : decide (a1 ≤ (wrap64 ((ji42) + 2))) = true := zE c53
       by_cases c54 : (wrap64 ((ji42) + 2)) ≤ (l0.length : Int)
       case neg =>
        rw [if_neg c54] at H
        exact absurd H (by simp)
       rw [if_pos c54] at H
       have c54b0 := eq_true c54
       have c54b1 : decide ((wrap64 ((ji42) + 2)) ≤ (l0.length : Int)) = true := zE c54
       by_cases c55 : (strOfNums t388).toList = (strOfNums ((l0.take ((wrap64 ((ji42) + 2)) : Int).toNat).drop (a1 : Int).toNat)).toList
       case neg =>
        rw [if_neg c55] at H
        have c55b0 : ((strOfNums t388).toList == (strOfNums ((l0.take ((wrap64 ((ji42) + 2)) : Int).toNat).drop (a1 : Int).toNat)).toList) = false := beq_eq_false_iff_ne.mpr c55
        have c55b1 : ((strOfNums t388).toList != (strOfNums ((l0.take ((wrap64 ((ji42) + 2)) : Int).toNat).drop (a1 : Int).toNat)).toList) = true := bne_iff_ne.mpr c55
        simp only [Option.some.injEq, Prod.mk.injEq] at H
        obtain ⟨rfl, rfl, rfl⟩ := H
        obtain ⟨Ao66, co66, eo66⟩ := Kd.R_slice HO_11.out
        subst eo66
        go_wp2_with (first | (go_at_call 90; (with_reducible refine (spec_UnRice.calls k3 (Int.tmod (wrap64 (rd l0 (ji12))) 32) _ _ x11_3 (wrap64 ((wrap64 (rd l0 (ji9))) + 1)) t375 t376 true _ ?side1 ?side2 A33.out).mono ?_); (case side1 => repeat (first | exact (Kd.R_reads' HO_11.out).2.2 | (with_reducible first | refine zCa ?_ _ | refine zCn ?_ _ | refine zCd ?_))); (case side2 => exact (Kd.R_reads' HO_11.out).2.1); rintro e w67 ⟨v378, rfl, ho0, hb⟩; have n0_ := Aside0.mk (Kd.R_elder' (by (with_reducible repeat (first | apply zRa | apply zRn | apply zRd)); first | exact HO_7.out | (subst_vars; exact HO_7.out)) (Kd.R_base ho0) hb); have n1_ := Aside0.mk (Kd.R_elder' (by (with_reducible repeat (first | apply zRa | apply zRn | apply zRd)); first | exact HO_11.out | (subst_vars; exact HO_11.out)) (Kd.R_base ho0) hb); have n2_ := Aside0.mk (Kd.R_lower (Kd.R_new' (Kd.R_new' ho0 (Kd.R_lt (by (with_reducible repeat (first | apply zRa | apply zRn | apply zRd)); first | exact HO_7.out | (subst_vars; exact HO_7.out)))) (Kd.R_lt (by (with_reducible repeat (first | apply zRa | apply zRn | apply zRd)); first | exact HO_11.out | (subst_vars; exact HO_11.out)))) (below_size (by repeat (first | (with_reducible first | exact HB.out | apply zBa | apply zBn | apply zBd) | exact HB.out)))); have n3_ := Aside0.mk (below_step (by repeat (first | (with_reducible first | exact HB.out | apply zBa | apply zBn | apply zBd) | exact HB.out)) hb); clear HO_7; clear HO_11; clear HB; have HO_7 := n0_; have HO_11 := n1_; have HO379 := n2_; have HB := n3_; clear n0_ n1_ n2_ n3_; (try clear hb); (try clear hb2); (try clear hk); (try clear hi); (try clear ho0); obtain ⟨i068, hi068, _, hsz68, _⟩ := info_parts info5; obtain ⟨A68, hcut68, hA68, hC68⟩ := print_mid_of (P := Try.prog) (Value.int .u8) 0 22 5 .i64 .i64 Try.underlying22 hi068 hsz68 (some ad364) c0 l0 a1 (ji42) (zT (by first | (with_reducible assumption) | assumption)) (by first | omega | exact zT (by first | (with_reducible assumption) | assumption)) (zT (by first | (with_reducible assumption) | assumption)) HC0.out; have HR380 := Aside0.mk (Kd.C_of_reads (h1 := fun _ => rfl) (hA68 _ (Kd.reads_of_C HR0.out))); have HC380 := Aside0.mk hC68; clear hA68 hC68 hi068 hsz68) | (go_at_call 80; refine calls_of_args (args' := #[.slice A68 ((l0.take ((ji42) : Int).toNat).drop (a1 : Int).toNat).length (c0 - a1.toNat)]) (by first | (rw [show ((l0.take ((ji42) : Int).toNat).drop (a1 : Int).toNat).length = ((ji42).toNat - a1.toNat) from (by rw [List.length_drop, List.length_take]; have h_ : ((ji42) : Int) ≤ (l0.length : Int) := zT (by first | (with_reducible assumption) | assumption); omega)] <;> rfl) | rfl) ?_; (with_reducible refine (spec_Crc16.calls k3 _ _ ((l0.take ((ji42) : Int).toNat).drop (a1 : Int).toNat) t381 _ ?side1 ?side2 A41.out).mono ?_); (case side1 => repeat (first | exact (Kd.C_below HR380.out HB.out) | (with_reducible first | refine zCa ?_ _ | refine zCn ?_ _ | refine zCd ?_))); (case side2 => exact HC380.out); rintro e w' ⟨rfl, ⟨nd, rfl⟩⟩; (try first | exact ⟨rfl, _, zD _ _ _⟩ | exact ⟨rfl, _, Eq.trans (zD _ _ _) (congrArg (World.drewN _) (Nat.add_assoc _ _ _))⟩); have p382 : 0 ≤ ((ji42) : Int) := zT (by first | (with_reducible assumption) | assumption); have q382 : (ji42) < (l0.length : Int) := zT (by first | (with_reducible assumption) | assumption); obtain ⟨ad382, e382, hx382_0⟩ := Kd.at_int HR0.out (ji42) p382 q382; obtain rfl : ad364 = ad382 := (by injection e382); replace hx382_0 := (HB.out.cell (zW w _ hx382_0)).trans hx382_0; replace p382 := eq_true p382; replace q382 := eq_true q382; have p383 : 0 ≤ ((ji45) : Int) := zT (by first | (with_reducible assumption) | assumption); have q383 : (ji45) < (l0.length : Int) := zT (by first | (with_reducible assumption) | assumption); obtain ⟨ad383, e383, hx383_0⟩ := Kd.at_int HR0.out (ji45) p383 q383; obtain rfl : ad364 = ad383 := (by injection e383); replace hx383_0 := (HB.out.cell (zW w _ hx383_0)).trans hx383_0; replace p383 := eq_true p383; replace q383 := eq_true q383; obtain ⟨Ao69, co69, eo69⟩ := Kd.R_slice HO379.out; subst eo69) | (go_at_call 20; (with_reducible refine (spec_UnGuess.calls k3 (wrap64 (Int.tdiv (wrap64 (rd l0 (ji12))) 32)) _ _ t375 t384 true _ ?side1 ?side2 A49.out).mono ?_); (case side1 => repeat (first | exact (Kd.R_reads' HO379.out).2.2 | (with_reducible first | refine zCa ?_ _ | refine zCn ?_ _ | refine zCd ?_))); (case side2 => exact (Kd.R_reads' HO379.out).2.1); rintro e w70 ⟨v386, rfl, ho0, hb⟩; have n0_ := Aside0.mk (Kd.R_elder' (by (with_reducible repeat (first | apply zRa | apply zRn | apply zRd)); first | exact HO_7.out | (subst_vars; exact HO_7.out)) (Kd.R_base ho0) hb); have n1_ := Aside0.mk (Kd.R_elder' (by (with_reducible repeat (first | apply zRa | apply zRn | apply zRd)); first | exact HO_11.out | (subst_vars; exact HO_11.out)) (Kd.R_base ho0) hb); have n2_ := Aside0.mk (Kd.R_elder' (by (with_reducible repeat (first | apply zRa | apply zRn | apply zRd)); first | exact HO379.out | (subst_vars; exact HO379.out)) (Kd.R_base ho0) hb); have n3_ := Aside0.mk (Kd.R_lower (Kd.R_new' (Kd.R_new' (Kd.R_new' ho0 (Kd.R_lt (by (with_reducible repeat (first | apply zRa | apply zRn | apply zRd)); first | exact HO_7.out | (subst_vars; exact HO_7.out)))) (Kd.R_lt (by (with_reducible repeat (first | apply zRa | apply zRn | apply zRd)); first | exact HO_11.out | (subst_vars; exact HO_11.out)))) (Kd.R_lt (by (with_reducible repeat (first | apply zRa | apply zRn | apply zRd)); first | exact HO379.out | (subst_vars; exact HO379.out)))) (below_size (by repeat (first | (with_reducible first | exact HB.out | apply zBa | apply zBn | apply zBd) | exact HB.out)))); have n4_ := Aside0.mk (below_step (by repeat (first | (with_reducible first | exact HB.out | apply zBa | apply zBn | apply zBd) | exact HB.out)) hb); clear HO_7; clear HO_11; clear HO379; clear HB; have HO_7 := n0_; have HO_11 := n1_; have HO379 := n2_; have HO387 := n3_; have HB := n4_; clear n0_ n1_ n2_ n3_ n4_; (try clear hb); (try clear hb2); (try clear hk); (try clear hi); (try clear ho0); obtain ⟨Ao71, co71, eo71⟩ := Kd.R_slice HO387.out; subst eo71) | (go_at_call 34; (with_reducible refine (spec_PackFrame.calls k3 _ _ t384 t388 t389 _ ?side1 ?side2 A51.out).mono ?_); (case side1 => repeat (first | exact (Kd.R_reads' HO387.out).2.2 | (with_reducible first | refine zCa ?_ _ | refine zCn ?_ _ | refine zCd ?_))); (case side2 => exact (Kd.R_reads' HO387.out).2.1); rintro e w72 ⟨v390, rfl, ho0, hb⟩; have n0_ := Aside0.mk (Kd.R_below (by (with_reducible repeat (first | apply zRa | apply zRn | apply zRd)); first | exact HO_7.out | (subst_vars; exact HO_7.out)) hb); have n1_ := Aside0.mk (Kd.R_below (by (with_reducible repeat (first | apply zRa | apply zRn | apply zRd)); first | exact HO_11.out | (subst_vars; exact HO_11.out)) hb); have n2_ := Aside0.mk (Kd.R_below (by (with_reducible repeat (first | apply zRa | apply zRn | apply zRd)); first | exact HO379.out | (subst_vars; exact HO379.out)) hb); have n3_ := Aside0.mk (Kd.R_below (by (with_reducible repeat (first | apply zRa | apply zRn | apply zRd)); first | exact HO387.out | (subst_vars; exact HO387.out)) hb); have n4_ := Aside0.mk (Kd.R_lower ho0 (below_size (by repeat (first | (with_reducible first | exact HB.out | apply zBa | apply zBn | apply zBd) | exact HB.out)))); have n5_ := Aside0.mk (below_step (by repeat (first | (with_reducible first | exact HB.out | apply zBa | apply zBn | apply zBd) | exact HB.out)) hb); clear HO_7; clear HO_11; clear HO379; clear HO387; clear HB; have HO_7 := n0_; have HO_11 := n1_; have HO379 := n2_; have HO387 := n3_; have HO391 := n4_; have HB := n5_; clear n0_ n1_ n2_ n3_ n4_ n5_; (try clear hb); (try clear hb2); (try clear hk); (try clear hi); (try clear ho0); have hcv73 := own_string (P := Try.prog) Try.underlying22 Try.underlying5 Try.underlying9 (Kd.own_of_R HO391.out); have hcv73q := fun n_ => own_string (P := Try.prog) Try.underlying22 Try.underlying5 Try.underlying9 (Kd.own_of_R (zRn HO391.out n_)); obtain ⟨i074, hi074, _, hsz74, _⟩ := info_parts info5; obtain ⟨A74, hcut74, hA74, hC74⟩ := print_mid_of (P := Try.prog) (Value.int .u8) 0 22 5 .i64 .i64 Try.underlying22 hi074 hsz74 (some ad364) c0 l0 a1 (wrap64 ((ji42) + 2)) (zT (by first | (with_reducible assumption) | assumption)) (by first | omega | exact zT (by first | (with_reducible assumption) | assumption)) (zT (by first | (with_reducible assumption) | assumption)) HC0.out; have HR392 := Aside0.mk (Kd.C_of_reads (h1 := fun _ => rfl) (hA74 _ (Kd.reads_of_C HR0.out))); have HC392 := Aside0.mk hC74; (try (have hcut74w := hcut74; conv at hcut74w => (enter [W, 1]; simp only [← i64_w]))); clear hA74 hC74 hi074 hsz74; have hcv75 := Kd.C_string (P := Try.prog) (A := A74) (c := (c0 - a1.toNat)) Try.underlying22 Try.underlying5 Try.underlying9 (Kd.C_below HR392.out HB.out); (try have hcv75q := fun n_ => Kd.C_string (P := Try.prog) (A := A74) (c := (c0 - a1.toNat)) Try.underlying22 Try.underlying5 Try.underlying9 (zCn (Kd.C_below HR392.out HB.out) n_)); (try (have hcv75r := hcv75q; rw [show ((l0.take ((wrap64 ((ji42) + 2)) : Int).toNat).drop (a1 : Int).toNat).length = ((wrap64 ((ji42) + 2)).toNat - a1.toNat) from (by rw [List.length_drop, List.length_take]; have h_ : ((wrap64 ((ji42) + 2)) : Int) ≤ (l0.length : Int) := zT (by first | (with_reducible assumption) | assumption); omega)] at hcv75r))))
        repeat (go_quiet (first | (go_at_call 90; (with_reducible refine (spec_UnRice.calls k3 (Int.tmod (wrap64 (rd l0 (ji12))) 32) _ _ x11_3 (wrap64 ((wrap64 (rd l0 (ji9))) + 1)) t375 t376 true _ ?side1 ?side2 A33.out).mono ?_); (case side1 => repeat (first | exact (Kd.R_reads' HO_11.out).2.2 | (with_reducible first | refine zCa ?_ _ | refine zCn ?_ _ | refine zCd ?_))); (case side2 => exact (Kd.R_reads' HO_11.out).2.1); rintro e w67 ⟨v378, rfl, ho0, hb⟩; have n0_ := Aside0.mk (Kd.R_elder' (by (with_reducible repeat (first | apply zRa | apply zRn | apply zRd)); first | exact HO_7.out | (subst_vars; exact HO_7.out)) (Kd.R_base ho0) hb); have n1_ := Aside0.mk (Kd.R_elder' (by (with_reducible repeat (first | apply zRa | apply zRn | apply zRd)); first | exact HO_11.out | (subst_vars; exact HO_11.out)) (Kd.R_base ho0) hb); have n2_ := Aside0.mk (Kd.R_lower (Kd.R_new' (Kd.R_new' ho0 (Kd.R_lt (by (with_reducible repeat (first | apply zRa | apply zRn | apply zRd)); first | exact HO_7.out | (subst_vars; exact HO_7.out)))) (Kd.R_lt (by (with_reducible repeat (first | apply zRa | apply zRn | apply zRd)); first | exact HO_11.out | (subst_vars; exact HO_11.out)))) (below_size (by repeat (first | (with_reducible first | exact HB.out | apply zBa | apply zBn | apply zBd) | exact HB.out)))); have n3_ := Aside0.mk (below_step (by repeat (first | (with_reducible first | exact HB.out | apply zBa | apply zBn | apply zBd) | exact HB.out)) hb); clear HO_7; clear HO_11; clear HB; have HO_7 := n0_; have HO_11 := n1_; have HO379 := n2_; have HB := n3_; clear n0_ n1_ n2_ n3_; (try clear hb); (try clear hb2); (try clear hk); (try clear hi); (try clear ho0); obtain ⟨i068, hi068, _, hsz68, _⟩ := info_parts info5; obtain ⟨A68, hcut68, hA68, hC68⟩ := print_mid_of (P := Try.prog) (Value.int .u8) 0 22 5 .i64 .i64 Try.underlying22 hi068 hsz68 (some ad364) c0 l0 a1 (ji42) (zT (by first | (with_reducible assumption) | assumption)) (by first | omega | exact zT (by first | (with_reducible assumption) | assumption)) (zT (by first | (with_reducible assumption) | assumption)) HC0.out; have HR380 := Aside0.mk (Kd.C_of_reads (h1 := fun _ => rfl) (hA68 _ (Kd.reads_of_C HR0.out))); have HC380 := Aside0.mk hC68; clear hA68 hC68 hi068 hsz68) | (go_at_call 80; refine calls_of_args (args' := #[.slice A68 ((l0.take ((ji42) : Int).toNat).drop (a1 : Int).toNat).length (c0 - a1.toNat)]) (by first | (rw [show ((l0.take ((ji42) : Int).toNat).drop (a1 : Int).toNat).length = ((ji42).toNat - a1.toNat) from (by rw [List.length_drop, List.length_take]; have h_ : ((ji42) : Int) ≤ (l0.length : Int) := zT (by first | (with_reducible assumption) | assumption); omega)] <;> rfl) | rfl) ?_; (with_reducible refine (spec_Crc16.calls k3 _ _ ((l0.take ((ji42) : Int).toNat).drop (a1 : Int).toNat) t381 _ ?side1 ?side2 A41.out).mono ?_); (case side1 => repeat (first | exact (Kd.C_below HR380.out HB.out) | (with_reducible first | refine zCa ?_ _ | refine zCn ?_ _ | refine zCd ?_))); (case side2 => exact HC380.out); rintro e w' ⟨rfl, ⟨nd, rfl⟩⟩; (try first | exact ⟨rfl, _, zD _ _ _⟩ | exact ⟨rfl, _, Eq.trans (zD _ _ _) (congrArg (World.drewN _) (Nat.add_assoc _ _ _))⟩); have p382 : 0 ≤ ((ji42) : Int) := zT (by first | (with_reducible assumption) | assumption); have q382 : (ji42) < (l0.length : Int) := zT (by first | (with_reducible assumption) | assumption); obtain ⟨ad382, e382, hx382_0⟩ := Kd.at_int HR0.out (ji42) p382 q382; obtain rfl : ad364 = ad382 := (by injection e382); replace hx382_0 := (HB.out.cell (zW w _ hx382_0)).trans hx382_0; replace p382 := eq_true p382; replace q382 := eq_true q382; have p383 : 0 ≤ ((ji45) : Int) := zT (by first | (with_reducible assumption) | assumption); have q383 : (ji45) < (l0.length : Int) := zT (by first | (with_reducible assumption) | assumption); obtain ⟨ad383, e383, hx383_0⟩ := Kd.at_int HR0.out (ji45) p383 q383; obtain rfl : ad364 = ad383 := (by injection e383); replace hx383_0 := (HB.out.cell (zW w _ hx383_0)).trans hx383_0; replace p383 := eq_true p383; replace q383 := eq_true q383; obtain ⟨Ao69, co69, eo69⟩ := Kd.R_slice HO379.out; subst eo69) | (go_at_call 20; (with_reducible refine (spec_UnGuess.calls k3 (wrap64 (Int.tdiv (wrap64 (rd l0 (ji12))) 32)) _ _ t375 t384 true _ ?side1 ?side2 A49.out).mono ?_); (case side1 => repeat (first | exact (Kd.R_reads' HO379.out).2.2 | (with_reducible first | refine zCa ?_ _ | refine zCn ?_ _ | refine zCd ?_))); (case side2 => exact (Kd.R_reads' HO379.out).2.1); rintro e w70 ⟨v386, rfl, ho0, hb⟩; have n0_ := Aside0.mk (Kd.R_elder' (by (with_reducible repeat (first | apply zRa | apply zRn | apply zRd)); first | exact HO_7.out | (subst_vars; exact HO_7.out)) (Kd.R_base ho0) hb); have n1_ := Aside0.mk (Kd.R_elder' (by (with_reducible repeat (first | apply zRa | apply zRn | apply zRd)); first | exact HO_11.out | (subst_vars; exact HO_11.out)) (Kd.R_base ho0) hb); have n2_ := Aside0.mk (Kd.R_elder' (by (with_reducible repeat (first | apply zRa | apply zRn | apply zRd)); first | exact HO379.out | (subst_vars; exact HO379.out)) (Kd.R_base ho0) hb); have n3_ := Aside0.mk (Kd.R_lower (Kd.R_new' (Kd.R_new' (Kd.R_new' ho0 (Kd.R_lt (by (with_reducible repeat (first | apply zRa | apply zRn | apply zRd)); first | exact HO_7.out | (subst_vars; exact HO_7.out)))) (Kd.R_lt (by (with_reducible repeat (first | apply zRa | apply zRn | apply zRd)); first | exact HO_11.out | (subst_vars; exact HO_11.out)))) (Kd.R_lt (by (with_reducible repeat (first | apply zRa | apply zRn | apply zRd)); first | exact HO379.out | (subst_vars; exact HO379.out)))) (below_size (by repeat (first | (with_reducible first | exact HB.out | apply zBa | apply zBn | apply zBd) | exact HB.out)))); have n4_ := Aside0.mk (below_step (by repeat (first | (with_reducible first | exact HB.out | apply zBa | apply zBn | apply zBd) | exact HB.out)) hb); clear HO_7; clear HO_11; clear HO379; clear HB; have HO_7 := n0_; have HO_11 := n1_; have HO379 := n2_; have HO387 := n3_; have HB := n4_; clear n0_ n1_ n2_ n3_ n4_; (try clear hb); (try clear hb2); (try clear hk); (try clear hi); (try clear ho0); obtain ⟨Ao71, co71, eo71⟩ := Kd.R_slice HO387.out; subst eo71) | (go_at_call 34; (with_reducible refine (spec_PackFrame.calls k3 _ _ t384 t388 t389 _ ?side1 ?side2 A51.out).mono ?_); (case side1 => repeat (first | exact (Kd.R_reads' HO387.out).2.2 | (with_reducible first | refine zCa ?_ _ | refine zCn ?_ _ | refine zCd ?_))); (case side2 => exact (Kd.R_reads' HO387.out).2.1); rintro e w72 ⟨v390, rfl, ho0, hb⟩; have n0_ := Aside0.mk (Kd.R_below (by (with_reducible repeat (first | apply zRa | apply zRn | apply zRd)); first | exact HO_7.out | (subst_vars; exact HO_7.out)) hb); have n1_ := Aside0.mk (Kd.R_below (by (with_reducible repeat (first | apply zRa | apply zRn | apply zRd)); first | exact HO_11.out | (subst_vars; exact HO_11.out)) hb); have n2_ := Aside0.mk (Kd.R_below (by (with_reducible repeat (first | apply zRa | apply zRn | apply zRd)); first | exact HO379.out | (subst_vars; exact HO379.out)) hb); have n3_ := Aside0.mk (Kd.R_below (by (with_reducible repeat (first | apply zRa | apply zRn | apply zRd)); first | exact HO387.out | (subst_vars; exact HO387.out)) hb); have n4_ := Aside0.mk (Kd.R_lower ho0 (below_size (by repeat (first | (with_reducible first | exact HB.out | apply zBa | apply zBn | apply zBd) | exact HB.out)))); have n5_ := Aside0.mk (below_step (by repeat (first | (with_reducible first | exact HB.out | apply zBa | apply zBn | apply zBd) | exact HB.out)) hb); clear HO_7; clear HO_11; clear HO379; clear HO387; clear HB; have HO_7 := n0_; have HO_11 := n1_; have HO379 := n2_; have HO387 := n3_; have HO391 := n4_; have HB := n5_; clear n0_ n1_ n2_ n3_ n4_ n5_; (try clear hb); (try clear hb2); (try clear hk); (try clear hi); (try clear ho0); have hcv73 := own_string (P := Try.prog) Try.underlying22 Try.underlying5 Try.underlying9 (Kd.own_of_R HO391.out); have hcv73q := fun n_ => own_string (P := Try.prog) Try.underlying22 Try.underlying5 Try.underlying9 (Kd.own_of_R (zRn HO391.out n_)); obtain ⟨i074, hi074, _, hsz74, _⟩ := info_parts info5; obtain ⟨A74, hcut74, hA74, hC74⟩ := print_mid_of (P := Try.prog) (Value.int .u8) 0 22 5 .i64 .i64 Try.underlying22 hi074 hsz74 (some ad364) c0 l0 a1 (wrap64 ((ji42) + 2)) (zT (by first | (with_reducible assumption) | assumption)) (by first | omega | exact zT (by first | (with_reducible assumption) | assumption)) (zT (by first | (with_reducible assumption) | assumption)) HC0.out; have HR392 := Aside0.mk (Kd.C_of_reads (h1 := fun _ => rfl) (hA74 _ (Kd.reads_of_C HR0.out))); have HC392 := Aside0.mk hC74; (try (have hcut74w := hcut74; conv at hcut74w => (enter [W, 1]; simp only [← i64_w]))); clear hA74 hC74 hi074 hsz74; have hcv75 := Kd.C_string (P := Try.prog) (A := A74) (c := (c0 - a1.toNat)) Try.underlying22 Try.underlying5 Try.underlying9 (Kd.C_below HR392.out HB.out); (try have hcv75q := fun n_ => Kd.C_string (P := Try.prog) (A := A74) (c := (c0 - a1.toNat)) Try.underlying22 Try.underlying5 Try.underlying9 (zCn (Kd.C_below HR392.out HB.out) n_)); (try (have hcv75r := hcv75q; rw [show ((l0.take ((wrap64 ((ji42) + 2)) : Int).toNat).drop (a1 : Int).toNat).length = ((wrap64 ((ji42) + 2)).toNat - a1.toNat) from (by rw [List.length_drop, List.length_take]; have h_ : ((wrap64 ((ji42) + 2)) : Int) ≤ (l0.length : Int) := zT (by first | (with_reducible assumption) | assumption); omega)] at hcv75r)))); try go_wp2_with (first | (go_at_call 90; (with_reducible refine (spec_UnRice.calls k3 (Int.tmod (wrap64 (rd l0 (ji12))) 32) _ _ x11_3 (wrap64 ((wrap64 (rd l0 (ji9))) + 1)) t375 t376 true _ ?side1 ?side2 A33.out).mono ?_); (case side1 => repeat (first | exact (Kd.R_reads' HO_11.out).2.2 | (with_reducible first | refine zCa ?_ _ | refine zCn ?_ _ | refine zCd ?_))); (case side2 => exact (Kd.R_reads' HO_11.out).2.1); rintro e w67 ⟨v378, rfl, ho0, hb⟩; have n0_ := Aside0.mk (Kd.R_elder' (by (with_reducible repeat (first | apply zRa | apply zRn | apply zRd)); first | exact HO_7.out | (subst_vars; exact HO_7.out)) (Kd.R_base ho0) hb); have n1_ := Aside0.mk (Kd.R_elder' (by (with_reducible repeat (first | apply zRa | apply zRn | apply zRd)); first | exact HO_11.out | (subst_vars; exact HO_11.out)) (Kd.R_base ho0) hb); have n2_ := Aside0.mk (Kd.R_lower (Kd.R_new' (Kd.R_new' ho0 (Kd.R_lt (by (with_reducible repeat (first | apply zRa | apply zRn | apply zRd)); first | exact HO_7.out | (subst_vars; exact HO_7.out)))) (Kd.R_lt (by (with_reducible repeat (first | apply zRa | apply zRn | apply zRd)); first | exact HO_11.out | (subst_vars; exact HO_11.out)))) (below_size (by repeat (first | (with_reducible first | exact HB.out | apply zBa | apply zBn | apply zBd) | exact HB.out)))); have n3_ := Aside0.mk (below_step (by repeat (first | (with_reducible first | exact HB.out | apply zBa | apply zBn | apply zBd) | exact HB.out)) hb); clear HO_7; clear HO_11; clear HB; have HO_7 := n0_; have HO_11 := n1_; have HO379 := n2_; have HB := n3_; clear n0_ n1_ n2_ n3_; (try clear hb); (try clear hb2); (try clear hk); (try clear hi); (try clear ho0); obtain ⟨i068, hi068, _, hsz68, _⟩ := info_parts info5; obtain ⟨A68, hcut68, hA68, hC68⟩ := print_mid_of (P := Try.prog) (Value.int .u8) 0 22 5 .i64 .i64 Try.underlying22 hi068 hsz68 (some ad364) c0 l0 a1 (ji42) (zT (by first | (with_reducible assumption) | assumption)) (by first | omega | exact zT (by first | (with_reducible assumption) | assumption)) (zT (by first | (with_reducible assumption) | assumption)) HC0.out; have HR380 := Aside0.mk (Kd.C_of_reads (h1 := fun _ => rfl) (hA68 _ (Kd.reads_of_C HR0.out))); have HC380 := Aside0.mk hC68; clear hA68 hC68 hi068 hsz68) | (go_at_call 80; refine calls_of_args (args' := #[.slice A68 ((l0.take ((ji42) : Int).toNat).drop (a1 : Int).toNat).length (c0 - a1.toNat)]) (by first | (rw [show ((l0.take ((ji42) : Int).toNat).drop (a1 : Int).toNat).length = ((ji42).toNat - a1.toNat) from (by rw [List.length_drop, List.length_take]; have h_ : ((ji42) : Int) ≤ (l0.length : Int) := zT (by first | (with_reducible assumption) | assumption); omega)] <;> rfl) | rfl) ?_; (with_reducible refine (spec_Crc16.calls k3 _ _ ((l0.take ((ji42) : Int).toNat).drop (a1 : Int).toNat) t381 _ ?side1 ?side2 A41.out).mono ?_); (case side1 => repeat (first | exact (Kd.C_below HR380.out HB.out) | (with_reducible first | refine zCa ?_ _ | refine zCn ?_ _ | refine zCd ?_))); (case side2 => exact HC380.out); rintro e w' ⟨rfl, ⟨nd, rfl⟩⟩; (try first | exact ⟨rfl, _, zD _ _ _⟩ | exact ⟨rfl, _, Eq.trans (zD _ _ _) (congrArg (World.drewN _) (Nat.add_assoc _ _ _))⟩); have p382 : 0 ≤ ((ji42) : Int) := zT (by first | (with_reducible assumption) | assumption); have q382 : (ji42) < (l0.length : Int) := zT (by first | (with_reducible assumption) | assumption); obtain ⟨ad382, e382, hx382_0⟩ := Kd.at_int HR0.out (ji42) p382 q382; obtain rfl : ad364 = ad382 := (by injection e382); replace hx382_0 := (HB.out.cell (zW w _ hx382_0)).trans hx382_0; replace p382 := eq_true p382; replace q382 := eq_true q382; have p383 : 0 ≤ ((ji45) : Int) := zT (by first | (with_reducible assumption) | assumption); have q383 : (ji45) < (l0.length : Int) := zT (by first | (with_reducible assumption) | assumption); obtain ⟨ad383, e383, hx383_0⟩ := Kd.at_int HR0.out (ji45) p383 q383; obtain rfl : ad364 = ad383 := (by injection e383); replace hx383_0 := (HB.out.cell (zW w _ hx383_0)).trans hx383_0; replace p383 := eq_true p383; replace q383 := eq_true q383; obtain ⟨Ao69, co69, eo69⟩ := Kd.R_slice HO379.out; subst eo69) | (go_at_call 20; (with_reducible refine (spec_UnGuess.calls k3 (wrap64 (Int.tdiv (wrap64 (rd l0 (ji12))) 32)) _ _ t375 t384 true _ ?side1 ?side2 A49.out).mono ?_); (case side1 => repeat (first | exact (Kd.R_reads' HO379.out).2.2 | (with_reducible first | refine zCa ?_ _ | refine zCn ?_ _ | refine zCd ?_))); (case side2 => exact (Kd.R_reads' HO379.out).2.1); rintro e w70 ⟨v386, rfl, ho0, hb⟩; have n0_ := Aside0.mk (Kd.R_elder' (by (with_reducible repeat (first | apply zRa | apply zRn | apply zRd)); first | exact HO_7.out | (subst_vars; exact HO_7.out)) (Kd.R_base ho0) hb); have n1_ := Aside0.mk (Kd.R_elder' (by (with_reducible repeat (first | apply zRa | apply zRn | apply zRd)); first | exact HO_11.out | (subst_vars; exact HO_11.out)) (Kd.R_base ho0) hb); have n2_ := Aside0.mk (Kd.R_elder' (by (with_reducible repeat (first | apply zRa | apply zRn | apply zRd)); first | exact HO379.out | (subst_vars; exact HO379.out)) (Kd.R_base ho0) hb); have n3_ := Aside0.mk (Kd.R_lower (Kd.R_new' (Kd.R_new' (Kd.R_new' ho0 (Kd.R_lt (by (with_reducible repeat (first | apply zRa | apply zRn | apply zRd)); first | exact HO_7.out | (subst_vars; exact HO_7.out)))) (Kd.R_lt (by (with_reducible repeat (first | apply zRa | apply zRn | apply zRd)); first | exact HO_11.out | (subst_vars; exact HO_11.out)))) (Kd.R_lt (by (with_reducible repeat (first | apply zRa | apply zRn | apply zRd)); first | exact HO379.out | (subst_vars; exact HO379.out)))) (below_size (by repeat (first | (with_reducible first | exact HB.out | apply zBa | apply zBn | apply zBd) | exact HB.out)))); have n4_ := Aside0.mk (below_step (by repeat (first | (with_reducible first | exact HB.out | apply zBa | apply zBn | apply zBd) | exact HB.out)) hb); clear HO_7; clear HO_11; clear HO379; clear HB; have HO_7 := n0_; have HO_11 := n1_; have HO379 := n2_; have HO387 := n3_; have HB := n4_; clear n0_ n1_ n2_ n3_ n4_; (try clear hb); (try clear hb2); (try clear hk); (try clear hi); (try clear ho0); obtain ⟨Ao71, co71, eo71⟩ := Kd.R_slice HO387.out; subst eo71) | (go_at_call 34; (with_reducible refine (spec_PackFrame.calls k3 _ _ t384 t388 t389 _ ?side1 ?side2 A51.out).mono ?_); (case side1 => repeat (first | exact (Kd.R_reads' HO387.out).2.2 | (with_reducible first | refine zCa ?_ _ | refine zCn ?_ _ | refine zCd ?_))); (case side2 => exact (Kd.R_reads' HO387.out).2.1); rintro e w72 ⟨v390, rfl, ho0, hb⟩; have n0_ := Aside0.mk (Kd.R_below (by (with_reducible repeat (first | apply zRa | apply zRn | apply zRd)); first | exact HO_7.out | (subst_vars; exact HO_7.out)) hb); have n1_ := Aside0.mk (Kd.R_below (by (with_reducible repeat (first | apply zRa | apply zRn | apply zRd)); first | exact HO_11.out | (subst_vars; exact HO_11.out)) hb); have n2_ := Aside0.mk (Kd.R_below (by (with_reducible repeat (first | apply zRa | apply zRn | apply zRd)); first | exact HO379.out | (subst_vars; exact HO379.out)) hb); have n3_ := Aside0.mk (Kd.R_below (by (with_reducible repeat (first | apply zRa | apply zRn | apply zRd)); first | exact HO387.out | (subst_vars; exact HO387.out)) hb); have n4_ := Aside0.mk (Kd.R_lower ho0 (below_size (by repeat (first | (with_reducible first | exact HB.out | apply zBa | apply zBn | apply zBd) | exact HB.out)))); have n5_ := Aside0.mk (below_step (by repeat (first | (with_reducible first | exact HB.out | apply zBa | apply zBn | apply zBd) | exact HB.out)) hb); clear HO_7; clear HO_11; clear HO379; clear HO387; clear HB; have HO_7 := n0_; have HO_11 := n1_; have HO379 := n2_; have HO387 := n3_; have HO391 := n4_; have HB := n5_; clear n0_ n1_ n2_ n3_ n4_ n5_; (try clear hb); (try clear hb2); (try clear hk); (try clear hi); (try clear ho0); have hcv73 := own_string (P := Try.prog) Try.underlying22 Try.underlying5 Try.underlying9 (Kd.own_of_R HO391.out); have hcv73q := fun n_ => own_string (P := Try.prog) Try.underlying22 Try.underlying5 Try.underlying9 (Kd.own_of_R (zRn HO391.out n_)); obtain ⟨i074, hi074, _, hsz74, _⟩ := info_parts info5; obtain ⟨A74, hcut74, hA74, hC74⟩ := print_mid_of (P := Try.prog) (Value.int .u8) 0 22 5 .i64 .i64 Try.underlying22 hi074 hsz74 (some ad364) c0 l0 a1 (wrap64 ((ji42) + 2)) (zT (by first | (with_reducible assumption) | assumption)) (by first | omega | exact zT (by first | (with_reducible assumption) | assumption)) (zT (by first | (with_reducible assumption) | assumption)) HC0.out; have HR392 := Aside0.mk (Kd.C_of_reads (h1 := fun _ => rfl) (hA74 _ (Kd.reads_of_C HR0.out))); have HC392 := Aside0.mk hC74; (try (have hcut74w := hcut74; conv at hcut74w => (enter [W, 1]; simp only [← i64_w]))); clear hA74 hC74 hi074 hsz74; have hcv75 := Kd.C_string (P := Try.prog) (A := A74) (c := (c0 - a1.toNat)) Try.underlying22 Try.underlying5 Try.underlying9 (Kd.C_below HR392.out HB.out); (try have hcv75q := fun n_ => Kd.C_string (P := Try.prog) (A := A74) (c := (c0 - a1.toNat)) Try.underlying22 Try.underlying5 Try.underlying9 (zCn (Kd.C_below HR392.out HB.out) n_)); (try (have hcv75r := hcv75q; rw [show ((l0.take ((wrap64 ((ji42) + 2)) : Int).toNat).drop (a1 : Int).toNat).length = ((wrap64 ((ji42) + 2)).toNat - a1.toNat) from (by rw [List.length_drop, List.length_take]; have h_ : ((wrap64 ((ji42) + 2)) : Int) ≤ (l0.length : Int) := zT (by first | (with_reducible assumption) | assumption); omega)] at hcv75r)))))
        go_ret3
        exact ⟨_, by first | rfl | (simp [errW_none, errW_some] <;> rfl) | (simp only [← hji9, ← hji12, ← hji42, ← hji45]; first | rfl | (simp [errW_none, errW_some] <;> rfl)) | (simp [*, errW_none, errW_some] <;> rfl), by (with_reducible repeat (first | apply zRa | apply zRn | apply zRd)); first | exact Kd.R_mono HO_7.out (fun _ hk => trivial) | (subst_vars; exact Kd.R_mono HO_7.out (fun _ hk => trivial)), by repeat (first | (with_reducible first | exact HB.out | apply zBa | apply zBn | apply zBd) | exact HB.out)⟩
       rw [if_pos c55] at H
       have c55b0 : ((strOfNums t388).toList == (strOfNums ((l0.take ((wrap64 ((ji42) + 2)) : Int).toNat).drop (a1 : Int).toNat)).toList) = true := beq_iff_eq.mpr c55
       have c55b1 : ((strOfNums t388).toList != (strOfNums ((l0.take ((wrap64 ((ji42) + 2)) : Int).toNat).drop (a1 : Int).toNat)).toList) = false := bne_eq_false_iff_eq.mpr c55
       clear c55
       simp only [Option.some.injEq, Prod.mk.injEq] at H
       obtain ⟨rfl, rfl, rfl⟩ := H
       obtain ⟨Ao56, co56, eo56⟩ := Kd.R_slice HO_11.out
       subst eo56
       go_wp2_with (first | (go_at_call 90; (with_reducible refine (spec_UnRice.calls k3 (Int.tmod (wrap64 (rd l0 (ji12))) 32) _ _ x11_3 (wrap64 ((wrap64 (rd l0 (ji9))) + 1)) t375 t376 true _ ?side1 ?side2 A33.out).mono ?_); (case side1 => repeat (first | exact (Kd.R_reads' HO_11.out).2.2 | (with_reducible first | refine zCa ?_ _ | refine zCn ?_ _ | refine zCd ?_))); (case side2 => exact (Kd.R_reads' HO_11.out).2.1); rintro e w57 ⟨v378, rfl, ho0, hb⟩; have n0_ := Aside0.mk (Kd.R_elder' (by (with_reducible repeat (first | apply zRa | apply zRn | apply zRd)); first | exact HO_7.out | (subst_vars; exact HO_7.out)) (Kd.R_base ho0) hb); have n1_ := Aside0.mk (Kd.R_elder' (by (with_reducible repeat (first | apply zRa | apply zRn | apply zRd)); first | exact HO_11.out | (subst_vars; exact HO_11.out)) (Kd.R_base ho0) hb); have n2_ := Aside0.mk (Kd.R_lower (Kd.R_new' (Kd.R_new' ho0 (Kd.R_lt (by (with_reducible repeat (first | apply zRa | apply zRn | apply zRd)); first | exact HO_7.out | (subst_vars; exact HO_7.out)))) (Kd.R_lt (by (with_reducible repeat (first | apply zRa | apply zRn | apply zRd)); first | exact HO_11.out | (subst_vars; exact HO_11.out)))) (below_size (by repeat (first | (with_reducible first | exact HB.out | apply zBa | apply zBn | apply zBd) | exact HB.out)))); have n3_ := Aside0.mk (below_step (by repeat (first | (with_reducible first | exact HB.out | apply zBa | apply zBn | apply zBd) | exact HB.out)) hb); clear HO_7; clear HO_11; clear HB; have HO_7 := n0_; have HO_11 := n1_; have HO379 := n2_; have HB := n3_; clear n0_ n1_ n2_ n3_; (try clear hb); (try clear hb2); (try clear hk); (try clear hi); (try clear ho0); obtain ⟨i058, hi058, _, hsz58, _⟩ := info_parts info5; obtain ⟨A58, hcut58, hA58, hC58⟩ := print_mid_of (P := Try.prog) (Value.int .u8) 0 22 5 .i64 .i64 Try.underlying22 hi058 hsz58 (some ad364) c0 l0 a1 (ji42) (zT (by first | (with_reducible assumption) | assumption)) (by first | omega | exact zT (by first | (with_reducible assumption) | assumption)) (zT (by first | (with_reducible assumption) | assumption)) HC0.out; have HR380 := Aside0.mk (Kd.C_of_reads (h1 := fun _ => rfl) (hA58 _ (Kd.reads_of_C HR0.out))); have HC380 := Aside0.mk hC58; clear hA58 hC58 hi058 hsz58) | (go_at_call 80; refine calls_of_args (args' := #[.slice A58 ((l0.take ((ji42) : Int).toNat).drop (a1 : Int).toNat).length (c0 - a1.toNat)]) (by first | (rw [show ((l0.take ((ji42) : Int).toNat).drop (a1 : Int).toNat).length = ((ji42).toNat - a1.toNat) from (by rw [List.length_drop, List.length_take]; have h_ : ((ji42) : Int) ≤ (l0.length : Int) := zT (by first | (with_reducible assumption) | assumption); omega)] <;> rfl) | rfl) ?_; (with_reducible refine (spec_Crc16.calls k3 _ _ ((l0.take ((ji42) : Int).toNat).drop (a1 : Int).toNat) t381 _ ?side1 ?side2 A41.out).mono ?_); (case side1 => repeat (first | exact (Kd.C_below HR380.out HB.out) | (with_reducible first | refine zCa ?_ _ | refine zCn ?_ _ | refine zCd ?_))); (case side2 => exact HC380.out); rintro e w' ⟨rfl, ⟨nd, rfl⟩⟩; (try first | exact ⟨rfl, _, zD _ _ _⟩ | exact ⟨rfl, _, Eq.trans (zD _ _ _) (congrArg (World.drewN _) (Nat.add_assoc _ _ _))⟩); have p382 : 0 ≤ ((ji42) : Int) := zT (by first | (with_reducible assumption) | assumption); have q382 : (ji42) < (l0.length : Int) := zT (by first | (with_reducible assumption) | assumption); obtain ⟨ad382, e382, hx382_0⟩ := Kd.at_int HR0.out (ji42) p382 q382; obtain rfl : ad364 = ad382 := (by injection e382); replace hx382_0 := (HB.out.cell (zW w _ hx382_0)).trans hx382_0; replace p382 := eq_true p382; replace q382 := eq_true q382; have p383 : 0 ≤ ((ji45) : Int) := zT (by first | (with_reducible assumption) | assumption); have q383 : (ji45) < (l0.length : Int) := zT (by first | (with_reducible assumption) | assumption); obtain ⟨ad383, e383, hx383_0⟩ := Kd.at_int HR0.out (ji45) p383 q383; obtain rfl : ad364 = ad383 := (by injection e383); replace hx383_0 := (HB.out.cell (zW w _ hx383_0)).trans hx383_0; replace p383 := eq_true p383; replace q383 := eq_true q383; obtain ⟨Ao59, co59, eo59⟩ := Kd.R_slice HO379.out; subst eo59) | (go_at_call 20; (with_reducible refine (spec_UnGuess.calls k3 (wrap64 (Int.tdiv (wrap64 (rd l0 (ji12))) 32)) _ _ t375 t384 true _ ?side1 ?side2 A49.out).mono ?_); (case side1 => repeat (first | exact (Kd.R_reads' HO379.out).2.2 | (with_reducible first | refine zCa ?_ _ | refine zCn ?_ _ | refine zCd ?_))); (case side2 => exact (Kd.R_reads' HO379.out).2.1); rintro e w60 ⟨v386, rfl, ho0, hb⟩; have n0_ := Aside0.mk (Kd.R_elder' (by (with_reducible repeat (first | apply zRa | apply zRn | apply zRd)); first | exact HO_7.out | (subst_vars; exact HO_7.out)) (Kd.R_base ho0) hb); have n1_ := Aside0.mk (Kd.R_elder' (by (with_reducible repeat (first | apply zRa | apply zRn | apply zRd)); first | exact HO_11.out | (subst_vars; exact HO_11.out)) (Kd.R_base ho0) hb); have n2_ := Aside0.mk (Kd.R_elder' (by (with_reducible repeat (first | apply zRa | apply zRn | apply zRd)); first | exact HO379.out | (subst_vars; exact HO379.out)) (Kd.R_base ho0) hb); have n3_ := Aside0.mk (Kd.R_lower (Kd.R_new' (Kd.R_new' (Kd.R_new' ho0 (Kd.R_lt (by (with_reducible repeat (first | apply zRa | apply zRn | apply zRd)); first | exact HO_7.out | (subst_vars; exact HO_7.out)))) (Kd.R_lt (by (with_reducible repeat (first | apply zRa | apply zRn | apply zRd)); first | exact HO_11.out | (subst_vars; exact HO_11.out)))) (Kd.R_lt (by (with_reducible repeat (first | apply zRa | apply zRn | apply zRd)); first | exact HO379.out | (subst_vars; exact HO379.out)))) (below_size (by repeat (first | (with_reducible first | exact HB.out | apply zBa | apply zBn | apply zBd) | exact HB.out)))); have n4_ := Aside0.mk (below_step (by repeat (first | (with_reducible first | exact HB.out | apply zBa | apply zBn | apply zBd) | exact HB.out)) hb); clear HO_7; clear HO_11; clear HO379; clear HB; have HO_7 := n0_; have HO_11 := n1_; have HO379 := n2_; have HO387 := n3_; have HB := n4_; clear n0_ n1_ n2_ n3_ n4_; (try clear hb); (try clear hb2); (try clear hk); (try clear hi); (try clear ho0); obtain ⟨Ao61, co61, eo61⟩ := Kd.R_slice HO387.out; subst eo61) | (go_at_call 34; (with_reducible refine (spec_PackFrame.calls k3 _ _ t384 t388 t389 _ ?side1 ?side2 A51.out).mono ?_); (case side1 => repeat (first | exact (Kd.R_reads' HO387.out).2.2 | (with_reducible first | refine zCa ?_ _ | refine zCn ?_ _ | refine zCd ?_))); (case side2 => exact (Kd.R_reads' HO387.out).2.1); rintro e w62 ⟨v390, rfl, ho0, hb⟩; have n0_ := Aside0.mk (Kd.R_below (by (with_reducible repeat (first | apply zRa | apply zRn | apply zRd)); first | exact HO_7.out | (subst_vars; exact HO_7.out)) hb); have n1_ := Aside0.mk (Kd.R_below (by (with_reducible repeat (first | apply zRa | apply zRn | apply zRd)); first | exact HO_11.out | (subst_vars; exact HO_11.out)) hb); have n2_ := Aside0.mk (Kd.R_below (by (with_reducible repeat (first | apply zRa | apply zRn | apply zRd)); first | exact HO379.out | (subst_vars; exact HO379.out)) hb); have n3_ := Aside0.mk (Kd.R_below (by (with_reducible repeat (first | apply zRa | apply zRn | apply zRd)); first | exact HO387.out | (subst_vars; exact HO387.out)) hb); have n4_ := Aside0.mk (Kd.R_lower ho0 (below_size (by repeat (first | (with_reducible first | exact HB.out | apply zBa | apply zBn | apply zBd) | exact HB.out)))); have n5_ := Aside0.mk (below_step (by repeat (first | (with_reducible first | exact HB.out | apply zBa | apply zBn | apply zBd) | exact HB.out)) hb); clear HO_7; clear HO_11; clear HO379; clear HO387; clear HB; have HO_7 := n0_; have HO_11 := n1_; have HO379 := n2_; have HO387 := n3_; have HO391 := n4_; have HB := n5_; clear n0_ n1_ n2_ n3_ n4_ n5_; (try clear hb); (try clear hb2); (try clear hk); (try clear hi); (try clear ho0); have hcv63 := own_string (P := Try.prog) Try.underlying22 Try.underlying5 Try.underlying9 (Kd.own_of_R HO391.out); have hcv63q := fun n_ => own_string (P := Try.prog) Try.underlying22 Try.underlying5 Try.underlying9 (Kd.own_of_R (zRn HO391.out n_)); obtain ⟨i064, hi064, _, hsz64, _⟩ := info_parts info5; obtain ⟨A64, hcut64, hA64, hC64⟩ := print_mid_of (P := Try.prog) (Value.int .u8) 0 22 5 .i64 .i64 Try.underlying22 hi064 hsz64 (some ad364) c0 l0 a1 (wrap64 ((ji42) + 2)) (zT (by first | (with_reducible assumption) | assumption)) (by first | omega | exact zT (by first | (with_reducible assumption) | assumption)) (zT (by first | (with_reducible assumption) | assumption)) HC0.out; have HR392 := Aside0.mk (Kd.C_of_reads (h1 := fun _ => rfl) (hA64 _ (Kd.reads_of_C HR0.out))); have HC392 := Aside0.mk hC64; (try (have hcut64w := hcut64; conv at hcut64w => (enter [W, 1]; simp only [← i64_w]))); clear hA64 hC64 hi064 hsz64; have hcv65 := Kd.C_string (P := Try.prog) (A := A64) (c := (c0 - a1.toNat)) Try.underlying22 Try.underlying5 Try.underlying9 (Kd.C_below HR392.out HB.out); (try have hcv65q := fun n_ => Kd.C_string (P := Try.prog) (A := A64) (c := (c0 - a1.toNat)) Try.underlying22 Try.underlying5 Try.underlying9 (zCn (Kd.C_below HR392.out HB.out) n_)); (try (have hcv65r := hcv65q; rw [show ((l0.take ((wrap64 ((ji42) + 2)) : Int).toNat).drop (a1 : Int).toNat).length = ((wrap64 ((ji42) + 2)).toNat - a1.toNat) from (by rw [List.length_drop, List.length_take]; have h_ : ((wrap64 ((ji42) + 2)) : Int) ≤ (l0.length : Int) := zT (by first | (with_reducible assumption) | assumption); omega)] at hcv65r))))
       repeat (go_quiet (first | (go_at_call 90; (with_reducible refine (spec_UnRice.calls k3 (Int.tmod (wrap64 (rd l0 (ji12))) 32) _ _ x11_3 (wrap64 ((wrap64 (rd l0 (ji9))) + 1)) t375 t376 true _ ?side1 ?side2 A33.out).mono ?_); (case side1 => repeat (first | exact (Kd.R_reads' HO_11.out).2.2 | (with_reducible first | refine zCa ?_ _ | refine zCn ?_ _ | refine zCd ?_))); (case side2 => exact (Kd.R_reads' HO_11.out).2.1); rintro e w57 ⟨v378, rfl, ho0, hb⟩; have n0_ := Aside0.mk (Kd.R_elder' (by (with_reducible repeat (first | apply zRa | apply zRn | apply zRd)); first | exact HO_7.out | (subst_vars; exact HO_7.out)) (Kd.R_base ho0) hb); have n1_ := Aside0.mk (Kd.R_elder' (by (with_reducible repeat (first | apply zRa | apply zRn | apply zRd)); first | exact HO_11.out | (subst_vars; exact HO_11.out)) (Kd.R_base ho0) hb); have n2_ := Aside0.mk (Kd.R_lower (Kd.R_new' (Kd.R_new' ho0 (Kd.R_lt (by (with_reducible repeat (first | apply zRa | apply zRn | apply zRd)); first | exact HO_7.out | (subst_vars; exact HO_7.out)))) (Kd.R_lt (by (with_reducible repeat (first | apply zRa | apply zRn | apply zRd)); first | exact HO_11.out | (subst_vars; exact HO_11.out)))) (below_size (by repeat (first | (with_reducible first | exact HB.out | apply zBa | apply zBn | apply zBd) | exact HB.out)))); have n3_ := Aside0.mk (below_step (by repeat (first | (with_reducible first | exact HB.out | apply zBa | apply zBn | apply zBd) | exact HB.out)) hb); clear HO_7; clear HO_11; clear HB; have HO_7 := n0_; have HO_11 := n1_; have HO379 := n2_; have HB := n3_; clear n0_ n1_ n2_ n3_; (try clear hb); (try clear hb2); (try clear hk); (try clear hi); (try clear ho0); obtain ⟨i058, hi058, _, hsz58, _⟩ := info_parts info5; obtain ⟨A58, hcut58, hA58, hC58⟩ := print_mid_of (P := Try.prog) (Value.int .u8) 0 22 5 .i64 .i64 Try.underlying22 hi058 hsz58 (some ad364) c0 l0 a1 (ji42) (zT (by first | (with_reducible assumption) | assumption)) (by first | omega | exact zT (by first | (with_reducible assumption) | assumption)) (zT (by first | (with_reducible assumption) | assumption)) HC0.out; have HR380 := Aside0.mk (Kd.C_of_reads (h1 := fun _ => rfl) (hA58 _ (Kd.reads_of_C HR0.out))); have HC380 := Aside0.mk hC58; clear hA58 hC58 hi058 hsz58) | (go_at_call 80; refine calls_of_args (args' := #[.slice A58 ((l0.take ((ji42) : Int).toNat).drop (a1 : Int).toNat).length (c0 - a1.toNat)]) (by first | (rw [show ((l0.take ((ji42) : Int).toNat).drop (a1 : Int).toNat).length = ((ji42).toNat - a1.toNat) from (by rw [List.length_drop, List.length_take]; have h_ : ((ji42) : Int) ≤ (l0.length : Int) := zT (by first | (with_reducible assumption) | assumption); omega)] <;> rfl) | rfl) ?_; (with_reducible refine (spec_Crc16.calls k3 _ _ ((l0.take ((ji42) : Int).toNat).drop (a1 : Int).toNat) t381 _ ?side1 ?side2 A41.out).mono ?_); (case side1 => repeat (first | exact (Kd.C_below HR380.out HB.out) | (with_reducible first | refine zCa ?_ _ | refine zCn ?_ _ | refine zCd ?_))); (case side2 => exact HC380.out); rintro e w' ⟨rfl, ⟨nd, rfl⟩⟩; (try first | exact ⟨rfl, _, zD _ _ _⟩ | exact ⟨rfl, _, Eq.trans (zD _ _ _) (congrArg (World.drewN _) (Nat.add_assoc _ _ _))⟩); have p382 : 0 ≤ ((ji42) : Int) := zT (by first | (with_reducible assumption) | assumption); have q382 : (ji42) < (l0.length : Int) := zT (by first | (with_reducible assumption) | assumption); obtain ⟨ad382, e382, hx382_0⟩ := Kd.at_int HR0.out (ji42) p382 q382; obtain rfl : ad364 = ad382 := (by injection e382); replace hx382_0 := (HB.out.cell (zW w _ hx382_0)).trans hx382_0; replace p382 := eq_true p382; replace q382 := eq_true q382; have p383 : 0 ≤ ((ji45) : Int) := zT (by first | (with_reducible assumption) | assumption); have q383 : (ji45) < (l0.length : Int) := zT (by first | (with_reducible assumption) | assumption); obtain ⟨ad383, e383, hx383_0⟩ := Kd.at_int HR0.out (ji45) p383 q383; obtain rfl : ad364 = ad383 := (by injection e383); replace hx383_0 := (HB.out.cell (zW w _ hx383_0)).trans hx383_0; replace p383 := eq_true p383; replace q383 := eq_true q383; obtain ⟨Ao59, co59, eo59⟩ := Kd.R_slice HO379.out; subst eo59) | (go_at_call 20; (with_reducible refine (spec_UnGuess.calls k3 (wrap64 (Int.tdiv (wrap64 (rd l0 (ji12))) 32)) _ _ t375 t384 true _ ?side1 ?side2 A49.out).mono ?_); (case side1 => repeat (first | exact (Kd.R_reads' HO379.out).2.2 | (with_reducible first | refine zCa ?_ _ | refine zCn ?_ _ | refine zCd ?_))); (case side2 => exact (Kd.R_reads' HO379.out).2.1); rintro e w60 ⟨v386, rfl, ho0, hb⟩; have n0_ := Aside0.mk (Kd.R_elder' (by (with_reducible repeat (first | apply zRa | apply zRn | apply zRd)); first | exact HO_7.out | (subst_vars; exact HO_7.out)) (Kd.R_base ho0) hb); have n1_ := Aside0.mk (Kd.R_elder' (by (with_reducible repeat (first | apply zRa | apply zRn | apply zRd)); first | exact HO_11.out | (subst_vars; exact HO_11.out)) (Kd.R_base ho0) hb); have n2_ := Aside0.mk (Kd.R_elder' (by (with_reducible repeat (first | apply zRa | apply zRn | apply zRd)); first | exact HO379.out | (subst_vars; exact HO379.out)) (Kd.R_base ho0) hb); have n3_ := Aside0.mk (Kd.R_lower (Kd.R_new' (Kd.R_new' (Kd.R_new' ho0 (Kd.R_lt (by (with_reducible repeat (first | apply zRa | apply zRn | apply zRd)); first | exact HO_7.out | (subst_vars; exact HO_7.out)))) (Kd.R_lt (by (with_reducible repeat (first | apply zRa | apply zRn | apply zRd)); first | exact HO_11.out | (subst_vars; exact HO_11.out)))) (Kd.R_lt (by (with_reducible repeat (first | apply zRa | apply zRn | apply zRd)); first | exact HO379.out | (subst_vars; exact HO379.out)))) (below_size (by repeat (first | (with_reducible first | exact HB.out | apply zBa | apply zBn | apply zBd) | exact HB.out)))); have n4_ := Aside0.mk (below_step (by repeat (first | (with_reducible first | exact HB.out | apply zBa | apply zBn | apply zBd) | exact HB.out)) hb); clear HO_7; clear HO_11; clear HO379; clear HB; have HO_7 := n0_; have HO_11 := n1_; have HO379 := n2_; have HO387 := n3_; have HB := n4_; clear n0_ n1_ n2_ n3_ n4_; (try clear hb); (try clear hb2); (try clear hk); (try clear hi); (try clear ho0); obtain ⟨Ao61, co61, eo61⟩ := Kd.R_slice HO387.out; subst eo61) | (go_at_call 34; (with_reducible refine (spec_PackFrame.calls k3 _ _ t384 t388 t389 _ ?side1 ?side2 A51.out).mono ?_); (case side1 => repeat (first | exact (Kd.R_reads' HO387.out).2.2 | (with_reducible first | refine zCa ?_ _ | refine zCn ?_ _ | refine zCd ?_))); (case side2 => exact (Kd.R_reads' HO387.out).2.1); rintro e w62 ⟨v390, rfl, ho0, hb⟩; have n0_ := Aside0.mk (Kd.R_below (by (with_reducible repeat (first | apply zRa | apply zRn | apply zRd)); first | exact HO_7.out | (subst_vars; exact HO_7.out)) hb); have n1_ := Aside0.mk (Kd.R_below (by (with_reducible repeat (first | apply zRa | apply zRn | apply zRd)); first | exact HO_11.out | (subst_vars; exact HO_11.out)) hb); have n2_ := Aside0.mk (Kd.R_below (by (with_reducible repeat (first | apply zRa | apply zRn | apply zRd)); first | exact HO379.out | (subst_vars; exact HO379.out)) hb); have n3_ := Aside0.mk (Kd.R_below (by (with_reducible repeat (first | apply zRa | apply zRn | apply zRd)); first | exact HO387.out | (subst_vars; exact HO387.out)) hb); have n4_ := Aside0.mk (Kd.R_lower ho0 (below_size (by repeat (first | (with_reducible first | exact HB.out | apply zBa | apply zBn | apply zBd) | exact HB.out)))); have n5_ := Aside0.mk (below_step (by repeat (first | (with_reducible first | exact HB.out | apply zBa | apply zBn | apply zBd) | exact HB.out)) hb); clear HO_7; clear HO_11; clear HO379; clear HO387; clear HB; have HO_7 := n0_; have HO_11 := n1_; have HO379 := n2_; have HO387 := n3_; have HO391 := n4_; have HB := n5_; clear n0_ n1_ n2_ n3_ n4_ n5_; (try clear hb); (try clear hb2); (try clear hk); (try clear hi); (try clear ho0); have hcv63 := own_string (P := Try.prog) Try.underlying22 Try.underlying5 Try.underlying9 (Kd.own_of_R HO391.out); have hcv63q := fun n_ => own_string (P := Try.prog) Try.underlying22 Try.underlying5 Try.underlying9 (Kd.own_of_R (zRn HO391.out n_)); obtain ⟨i064, hi064, _, hsz64, _⟩ := info_parts info5; obtain ⟨A64, hcut64, hA64, hC64⟩ := print_mid_of (P := Try.prog) (Value.int .u8) 0 22 5 .i64 .i64 Try.underlying22 hi064 hsz64 (some ad364) c0 l0 a1 (wrap64 ((ji42) + 2)) (zT (by first | (with_reducible assumption) | assumption)) (by first | omega | exact zT (by first | (with_reducible assumption) | assumption)) (zT (by first | (with_reducible assumption) | assumption)) HC0.out; have HR392 := Aside0.mk (Kd.C_of_reads (h1 := fun _ => rfl) (hA64 _ (Kd.reads_of_C HR0.out))); have HC392 := Aside0.mk hC64; (try (have hcut64w := hcut64; conv at hcut64w => (enter [W, 1]; simp only [← i64_w]))); clear hA64 hC64 hi064 hsz64; have hcv65 := Kd.C_string (P := Try.prog) (A := A64) (c := (c0 - a1.toNat)) Try.underlying22 Try.underlying5 Try.underlying9 (Kd.C_below HR392.out HB.out); (try have hcv65q := fun n_ => Kd.C_string (P := Try.prog) (A := A64) (c := (c0 - a1.toNat)) Try.underlying22 Try.underlying5 Try.underlying9 (zCn (Kd.C_below HR392.out HB.out) n_)); (try (have hcv65r := hcv65q; rw [show ((l0.take ((wrap64 ((ji42) + 2)) : Int).toNat).drop (a1 : Int).toNat).length = ((wrap64 ((ji42) + 2)).toNat - a1.toNat) from (by rw [List.length_drop, List.length_take]; have h_ : ((wrap64 ((ji42) + 2)) : Int) ≤ (l0.length : Int) := zT (by first | (with_reducible assumption) | assumption); omega)] at hcv65r)))); try go_wp2_with (first | (go_at_call 90; (with_reducible refine (spec_UnRice.calls k3 (Int.tmod (wrap64 (rd l0 (ji12))) 32) _ _ x11_3 (wrap64 ((wrap64 (rd l0 (ji9))) + 1)) t375 t376 true _ ?side1 ?side2 A33.out).mono ?_); (case side1 => repeat (first | exact (Kd.R_reads' HO_11.out).2.2 | (with_reducible first | refine zCa ?_ _ | refine zCn ?_ _ | refine zCd ?_))); (case side2 => exact (Kd.R_reads' HO_11.out).2.1); rintro e w57 ⟨v378, rfl, ho0, hb⟩; have n0_ := Aside0.mk (Kd.R_elder' (by (with_reducible repeat (first | apply zRa | apply zRn | apply zRd)); first | exact HO_7.out | (subst_vars; exact HO_7.out)) (Kd.R_base ho0) hb); have n1_ := Aside0.mk (Kd.R_elder' (by (with_reducible repeat (first | apply zRa | apply zRn | apply zRd)); first | exact HO_11.out | (subst_vars; exact HO_11.out)) (Kd.R_base ho0) hb); have n2_ := Aside0.mk (Kd.R_lower (Kd.R_new' (Kd.R_new' ho0 (Kd.R_lt (by (with_reducible repeat (first | apply zRa | apply zRn | apply zRd)); first | exact HO_7.out | (subst_vars; exact HO_7.out)))) (Kd.R_lt (by (with_reducible repeat (first | apply zRa | apply zRn | apply zRd)); first | exact HO_11.out | (subst_vars; exact HO_11.out)))) (below_size (by repeat (first | (with_reducible first | exact HB.out | apply zBa | apply zBn | apply zBd) | exact HB.out)))); have n3_ := Aside0.mk (below_step (by repeat (first | (with_reducible first | exact HB.out | apply zBa | apply zBn | apply zBd) | exact HB.out)) hb); clear HO_7; clear HO_11; clear HB; have HO_7 := n0_; have HO_11 := n1_; have HO379 := n2_; have HB := n3_; clear n0_ n1_ n2_ n3_; (try clear hb); (try clear hb2); (try clear hk); (try clear hi); (try clear ho0); obtain ⟨i058, hi058, _, hsz58, _⟩ := info_parts info5; obtain ⟨A58, hcut58, hA58, hC58⟩ := print_mid_of (P := Try.prog) (Value.int .u8) 0 22 5 .i64 .i64 Try.underlying22 hi058 hsz58 (some ad364) c0 l0 a1 (ji42) (zT (by first | (with_reducible assumption) | assumption)) (by first | omega | exact zT (by first | (with_reducible assumption) | assumption)) (zT (by first | (with_reducible assumption) | assumption)) HC0.out; have HR380 := Aside0.mk (Kd.C_of_reads (h1 := fun _ => rfl) (hA58 _ (Kd.reads_of_C HR0.out))); have HC380 := Aside0.mk hC58; clear hA58 hC58 hi058 hsz58) | (go_at_call 80; refine calls_of_args (args' := #[.slice A58 ((l0.take ((ji42) : Int).toNat).drop (a1 : Int).toNat).length (c0 - a1.toNat)]) (by first | (rw [show ((l0.take ((ji42) : Int).toNat).drop (a1 : Int).toNat).length = ((ji42).toNat - a1.toNat) from (by rw [List.length_drop, List.length_take]; have h_ : ((ji42) : Int) ≤ (l0.length : Int) := zT (by first | (with_reducible assumption) | assumption); omega)] <;> rfl) | rfl) ?_; (with_reducible refine (spec_Crc16.calls k3 _ _ ((l0.take ((ji42) : Int).toNat).drop (a1 : Int).toNat) t381 _ ?side1 ?side2 A41.out).mono ?_); (case side1 => repeat (first | exact (Kd.C_below HR380.out HB.out) | (with_reducible first | refine zCa ?_ _ | refine zCn ?_ _ | refine zCd ?_))); (case side2 => exact HC380.out); rintro e w' ⟨rfl, ⟨nd, rfl⟩⟩; (try first | exact ⟨rfl, _, zD _ _ _⟩ | exact ⟨rfl, _, Eq.trans (zD _ _ _) (congrArg (World.drewN _) (Nat.add_assoc _ _ _))⟩); have p382 : 0 ≤ ((ji42) : Int) := zT (by first | (with_reducible assumption) | assumption); have q382 : (ji42) < (l0.length : Int) := zT (by first | (with_reducible assumption) | assumption); obtain ⟨ad382, e382, hx382_0⟩ := Kd.at_int HR0.out (ji42) p382 q382; obtain rfl : ad364 = ad382 := (by injection e382); replace hx382_0 := (HB.out.cell (zW w _ hx382_0)).trans hx382_0; replace p382 := eq_true p382; replace q382 := eq_true q382; have p383 : 0 ≤ ((ji45) : Int) := zT (by first | (with_reducible assumption) | assumption); have q383 : (ji45) < (l0.length : Int) := zT (by first | (with_reducible assumption) | assumption); obtain ⟨ad383, e383, hx383_0⟩ := Kd.at_int HR0.out (ji45) p383 q383; obtain rfl : ad364 = ad383 := (by injection e383); replace hx383_0 := (HB.out.cell (zW w _ hx383_0)).trans hx383_0; replace p383 := eq_true p383; replace q383 := eq_true q383; obtain ⟨Ao59, co59, eo59⟩ := Kd.R_slice HO379.out; subst eo59) | (go_at_call 20; (with_reducible refine (spec_UnGuess.calls k3 (wrap64 (Int.tdiv (wrap64 (rd l0 (ji12))) 32)) _ _ t375 t384 true _ ?side1 ?side2 A49.out).mono ?_); (case side1 => repeat (first | exact (Kd.R_reads' HO379.out).2.2 | (with_reducible first | refine zCa ?_ _ | refine zCn ?_ _ | refine zCd ?_))); (case side2 => exact (Kd.R_reads' HO379.out).2.1); rintro e w60 ⟨v386, rfl, ho0, hb⟩; have n0_ := Aside0.mk (Kd.R_elder' (by (with_reducible repeat (first | apply zRa | apply zRn | apply zRd)); first | exact HO_7.out | (subst_vars; exact HO_7.out)) (Kd.R_base ho0) hb); have n1_ := Aside0.mk (Kd.R_elder' (by (with_reducible repeat (first | apply zRa | apply zRn | apply zRd)); first | exact HO_11.out | (subst_vars; exact HO_11.out)) (Kd.R_base ho0) hb); have n2_ := Aside0.mk (Kd.R_elder' (by (with_reducible repeat (first | apply zRa | apply zRn | apply zRd)); first | exact HO379.out | (subst_vars; exact HO379.out)) (Kd.R_base ho0) hb); have n3_ := Aside0.mk (Kd.R_lower (Kd.R_new' (Kd.R_new' (Kd.R_new' ho0 (Kd.R_lt (by (with_reducible repeat (first | apply zRa | apply zRn | apply zRd)); first | exact HO_7.out | (subst_vars; exact HO_7.out)))) (Kd.R_lt (by (with_reducible repeat (first | apply zRa | apply zRn | apply zRd)); first | exact HO_11.out | (subst_vars; exact HO_11.out)))) (Kd.R_lt (by (with_reducible repeat (first | apply zRa | apply zRn | apply zRd)); first | exact HO379.out | (subst_vars; exact HO379.out)))) (below_size (by repeat (first | (with_reducible first | exact HB.out | apply zBa | apply zBn | apply zBd) | exact HB.out)))); have n4_ := Aside0.mk (below_step (by repeat (first | (with_reducible first | exact HB.out | apply zBa | apply zBn | apply zBd) | exact HB.out)) hb); clear HO_7; clear HO_11; clear HO379; clear HB; have HO_7 := n0_; have HO_11 := n1_; have HO379 := n2_; have HO387 := n3_; have HB := n4_; clear n0_ n1_ n2_ n3_ n4_; (try clear hb); (try clear hb2); (try clear hk); (try clear hi); (try clear ho0); obtain ⟨Ao61, co61, eo61⟩ := Kd.R_slice HO387.out; subst eo61) | (go_at_call 34; (with_reducible refine (spec_PackFrame.calls k3 _ _ t384 t388 t389 _ ?side1 ?side2 A51.out).mono ?_); (case side1 => repeat (first | exact (Kd.R_reads' HO387.out).2.2 | (with_reducible first | refine zCa ?_ _ | refine zCn ?_ _ | refine zCd ?_))); (case side2 => exact (Kd.R_reads' HO387.out).2.1); rintro e w62 ⟨v390, rfl, ho0, hb⟩; have n0_ := Aside0.mk (Kd.R_below (by (with_reducible repeat (first | apply zRa | apply zRn | apply zRd)); first | exact HO_7.out | (subst_vars; exact HO_7.out)) hb); have n1_ := Aside0.mk (Kd.R_below (by (with_reducible repeat (first | apply zRa | apply zRn | apply zRd)); first | exact HO_11.out | (subst_vars; exact HO_11.out)) hb); have n2_ := Aside0.mk (Kd.R_below (by (with_reducible repeat (first | apply zRa | apply zRn | apply zRd)); first | exact HO379.out | (subst_vars; exact HO379.out)) hb); have n3_ := Aside0.mk (Kd.R_below (by (with_reducible repeat (first | apply zRa | apply zRn | apply zRd)); first | exact HO387.out | (subst_vars; exact HO387.out)) hb); have n4_ := Aside0.mk (Kd.R_lower ho0 (below_size (by repeat (first | (with_reducible first | exact HB.out | apply zBa | apply zBn | apply zBd) | exact HB.out)))); have n5_ := Aside0.mk (below_step (by repeat (first | (with_reducible first | exact HB.out | apply zBa | apply zBn | apply zBd) | exact HB.out)) hb); clear HO_7; clear HO_11; clear HO379; clear HO387; clear HB; have HO_7 := n0_; have HO_11 := n1_; have HO379 := n2_; have HO387 := n3_; have HO391 := n4_; have HB := n5_; clear n0_ n1_ n2_ n3_ n4_ n5_; (try clear hb); (try clear hb2); (try clear hk); (try clear hi); (try clear ho0); have hcv63 := own_string (P := Try.prog) Try.underlying22 Try.underlying5 Try.underlying9 (Kd.own_of_R HO391.out); have hcv63q := fun n_ => own_string (P := Try.prog) Try.underlying22 Try.underlying5 Try.underlying9 (Kd.own_of_R (zRn HO391.out n_)); obtain ⟨i064, hi064, _, hsz64, _⟩ := info_parts info5; obtain ⟨A64, hcut64, hA64, hC64⟩ := print_mid_of (P := Try.prog) (Value.int .u8) 0 22 5 .i64 .i64 Try.underlying22 hi064 hsz64 (some ad364) c0 l0 a1 (wrap64 ((ji42) + 2)) (zT (by first | (with_reducible assumption) | assumption)) (by first | omega | exact zT (by first | (with_reducible assumption) | assumption)) (zT (by first | (with_reducible assumption) | assumption)) HC0.out; have HR392 := Aside0.mk (Kd.C_of_reads (h1 := fun _ => rfl) (hA64 _ (Kd.reads_of_C HR0.out))); have HC392 := Aside0.mk hC64; (try (have hcut64w := hcut64; conv at hcut64w => (enter [W, 1]; simp only [← i64_w]))); clear hA64 hC64 hi064 hsz64; have hcv65 := Kd.C_string (P := Try.prog) (A := A64) (c := (c0 - a1.toNat)) Try.underlying22 Try.underlying5 Try.underlying9 (Kd.C_below HR392.out HB.out); (try have hcv65q := fun n_ => Kd.C_string (P := Try.prog) (A := A64) (c := (c0 - a1.toNat)) Try.underlying22 Try.underlying5 Try.underlying9 (zCn (Kd.C_below HR392.out HB.out) n_)); (try (have hcv65r := hcv65q; rw [show ((l0.take ((wrap64 ((ji42) + 2)) : Int).toNat).drop (a1 : Int).toNat).length = ((wrap64 ((ji42) + 2)).toNat - a1.toNat) from (by rw [List.length_drop, List.length_take]; have h_ : ((wrap64 ((ji42) + 2)) : Int) ≤ (l0.length : Int) := zT (by first | (with_reducible assumption) | assumption); omega)] at hcv65r)))))
       go_ret3
       exact ⟨_, by first | rfl | (simp [errW_none, errW_some] <;> rfl) | (simp only [← hji9, ← hji12, ← hji42, ← hji45]; first | rfl | (simp [errW_none, errW_some] <;> rfl)) | (simp [*, errW_none, errW_some] <;> rfl), by (with_reducible repeat (first | apply zRa | apply zRn | apply zRd)); first | exact Kd.R_mono HO387.out (fun _ hk => trivial) | (subst_vars; exact Kd.R_mono HO387.out (fun _ hk => trivial)), by repeat (first | (with_reducible first | exact HB.out | apply zBa | apply zBn | apply zBd) | exact HB.out)⟩

/-! ### laws_toByteS: function 44 -/
def laws_toByteS.l0 : Nat → List Int → List Int → Int → Option (List Int)
 | 0, _, _, _ => none
 | k + 1, x0, x3, x4 => if x4 < (x0.length : Int) then (if 0 ≤ x4 then (if x4 < (x3.length : Int) then (laws_toByteS.l0 k x0 (x3.set (x4 : Int).toNat (rd x0 x4)) (wrap64 (x4 + 1))) else (none)) else (none)) else (some x3)
def laws_toByteS.f (k : Nat) (l0 : List Int) : Option (List Int) := if 0 ≤ (l0.length : Int) then (if ((l0.length : Int) : Int).toNat ≤ 281474976710656 then (laws_toByteS.l0 k l0 (List.replicate ((l0.length : Int) : Int).toNat 0) 0) else (none)) else (none)
theorem laws_toByteS.mono_l : ∀ k, (∀ y0 y1 y2, LeO (laws_toByteS.l0 k y0 y1 y2) (laws_toByteS.l0 (k + 1) y0 y1 y2))
 | 0 => fun _ _ _ r h => by simp [laws_toByteS.l0] at h
 | k + 1 => by
  have ih0 := laws_toByteS.mono_l k
  ·intro y0 y1 y2
   unfold laws_toByteS.l0
   repeat' first
   | (with_reducible exact ih0 _ _ _)
   | (with_reducible exact LeO.refl _)
   | (with_reducible exact LeO.none _)
   | (with_reducible refine LeO.ite ?_ ?_)
   | (with_reducible refine LeO.bind ?_ (fun _ => ?_))
   | exact ih0 _ _ _
   | exact LeO.none _
   | refine LeO.ite ?_ ?_
   | refine LeO.bind ?_ (fun _ => ?_)
theorem laws_toByteS.mono : ∀ a0 k, LeO (laws_toByteS.f k a0) (laws_toByteS.f (k + 1) a0) := by
 intro a0 k
 have ih0 := laws_toByteS.mono_l k
 unfold laws_toByteS.f
 repeat' first
  | (with_reducible exact ih0 _ _ _)
  | (with_reducible exact LeO.refl _)
  | (with_reducible exact LeO.none _)
  | (with_reducible refine LeO.ite ?_ ?_)
  | (with_reducible refine LeO.bind ?_ (fun _ => ?_))
  | exact ih0 _ _ _
  | exact LeO.none _
  | refine LeO.ite ?_ ?_
  | refine LeO.bind ?_ (fun _ => ?_)
set_option maxHeartbeats 8000000 in
set_option maxRecDepth 100000 in
theorem laws_toByteS.calls (k : Nat) (A0 : Option Addr) (c0 : Nat) (l0 : List Int) (r : List Int) (w : World) (hr0 : Kd.C (Kd.int .u8) w A0 l0.length l0) (hc0 : l0.length ≤ c0) (h : laws_toByteS.f k l0 = some r) :
 Calls Try.prog 44 #[.slice A0 l0.length c0] w fun e w' => ∃ v0_ : Value, e = .returned (v0_) ∧ Kd.R (Kd.int .u8) 5 w' w.heap.size (fun _ => True) v0_ r ∧ Below w.heap.size w w' := by
 have HR0 := Aside0.mk hr0
 have HC0 := Aside0.mk hc0
 clear hr0 hc0
 have HB := Aside0.mk (Below.refl w.heap.size w)
 have H : (if 0 ≤ (l0.length : Int) then (if ((l0.length : Int) : Int).toNat ≤ 281474976710656 then (laws_toByteS.l0 k l0 (List.replicate ((l0.length : Int) : Int).toNat 0) 0) else (none)) else (none)) = some r := h
 clear h
 by_cases c2 : 0 ≤ (l0.length : Int)
 case neg =>
  rw [if_neg c2] at H
  exact absurd H (by simp)
 rw [if_pos c2] at H
 have c2b0 := eq_true c2
 have c2b1 : decide (0 ≤ (l0.length : Int)) = true := zE c2
 clear c2
 by_cases c3 : ((l0.length : Int) : Int).toNat ≤ 281474976710656
 case neg =>
  rw [if_neg c3] at H
  exact absurd H (by simp)
 rw [if_pos c3] at H
 have c3b0 := eq_true c3
 have c3b1 : decide (((l0.length : Int) : Int).toNat ≤ 281474976710656) = true := zE c3
 clear c3
 obtain ⟨y393, hy393⟩ : ∃ y_ : List Int, y_ = (List.replicate ((l0.length : Int) : Int).toNat 0) := ⟨_, rfl⟩
 replace H : (laws_toByteS.l0 k l0 y393 0) = some r := by first | (rw [hy393]; with_reducible exact H) | (have H2_ := (Option.bind_some _ _).symm.trans H; rw [hy393]; with_reducible exact H2_) | (have H2_ := (Option.bind_some _ _).symm.trans H; with_reducible exact H2_) | with_reducible exact H | (rw [hy393]; exact H) | exact H
 have Ny393 := Aside0.mk hy393
 clear hy393
 have H' := Aside0.mk H
 clear H
 go_enter Try.func44, Try.ntmps44
 go_wp2_with (first | ((with_reducible refine gate_dst (N := 7) rfl ?_); refine Kd.R_make (Kd.int .u8) _ 5 rfl (N := 7) rfl 22 _ _ rfl (l0.length : Int) rfl rfl Try.underlying22 (.int .u8 0) 1 info5 rfl (by decide) (by omega) 0 (ok := fun _ => True) (okp := fun _ => True) rfl (fun _ hk => hk) trivial (zT (by first | (with_reducible assumption) | assumption)) (Nat.le_trans (Nat.mul_le_mul_right _ (zT (by first | (with_reducible assumption) | assumption) : (l0.length : Int).toNat ≤ 281474976710656)) (by omega)) (Below.refl _ _) (Nat.le_refl _) ?_; intro v394 w4 ho5 hb hg_ hnew_; clear hg_ hnew_; (first | rw [← Ny393.out] at ho5 | (simp only [Int.reduceToNat] at ho5; rw [← Ny393.out] at ho5)); have n0_ := Aside0.mk (Kd.R_lower ho5 (below_size (by repeat (first | (with_reducible first | exact HB.out | apply zBa | apply zBn | apply zBd) | exact HB.out)))); have n1_ := Aside0.mk (below_step (by repeat (first | (with_reducible first | exact HB.out | apply zBa | apply zBn | apply zBd) | exact HB.out)) hb); clear HB; have HO395 := n0_; have HB := n1_; clear n0_ n1_; clear hb ho5))
 go_loopg [4] k (fun kq v4 w' => ∃ (x3_1 : List Int) (x4_1 : Int), v4 = .int .i64 x4_1 ∧ Aside0 (laws_toByteS.l0 kq l0 x3_1 x4_1 = some r) ∧ Aside0 (kq ≤ k) ∧ Aside0 (Kd.R (Kd.int .u8) 5 w' w.heap.size (fun _ => True) v394 x3_1) ∧ Aside0 (Below w.heap.size w w'))
 case atStart => exact ⟨(y393), (0), (by first | rfl | (simp; done) | (simp [*]; done)), H', ⟨Nat.le_refl _⟩, ⟨by (with_reducible repeat (first | apply zRa | apply zRn | apply zRd)); first | exact HO395.out | (subst_vars; exact HO395.out)⟩, ⟨by repeat (first | (with_reducible first | exact HB.out | apply zBa | apply zBn | apply zBd) | exact HB.out)⟩⟩
 case round =>
  clear H'
  try clear c2
  try clear c2b0
  try clear c2b1
  try clear p2
  try clear c3
  try clear c3b0
  try clear c3b1
  try clear c4
  obtain ⟨x3_1, x4_1, rfl, HA, HK1, HO_3, HB⟩ := hrel
  cases gk with
  | zero => exact absurd HA.out (by simp [laws_toByteS.l0])
  | succ k1 =>
   have H := HA.out
   clear HA
   simp only [laws_toByteS.l0] at H
   by_cases c6 : x4_1 < (l0.length : Int)
   case neg =>
    rw [if_neg c6] at H
    have c6b0 : decide (x4_1 < (l0.length : Int)) = false := decide_eq_false c6
    clear c6
    obtain rfl := Option.some.inj H
    go_wp2
    go_ret
    exact ⟨_, by first | rfl | (simp [errW_none, errW_some] <;> rfl) | (simp [*, errW_none, errW_some] <;> rfl), by (with_reducible repeat (first | apply zRa | apply zRn | apply zRd)); first | exact HO_3.out | (subst_vars; exact HO_3.out), by repeat (first | (with_reducible first | exact HB.out | apply zBa | apply zBn | apply zBd) | exact HB.out)⟩
   rw [if_pos c6] at H
   have c6b0 : decide (x4_1 < (l0.length : Int)) = true := zE c6
   clear c6
   by_cases c7 : 0 ≤ x4_1
   case neg =>
    rw [if_neg c7] at H
    exact absurd H (by simp)
   rw [if_pos c7] at H
   have c7b0 : decide (0 ≤ x4_1) = true := zE c7
   clear c7
   by_cases c8 : x4_1 < (x3_1.length : Int)
   case neg =>
    rw [if_neg c8] at H
    exact absurd H (by simp)
   rw [if_pos c8] at H
   have c8b0 : decide (x4_1 < (x3_1.length : Int)) = true := zE c8
   clear c8
   obtain ⟨y397, hy397⟩ : ∃ y_ : List Int, y_ = (x3_1.set (x4_1 : Int).toNat (rd l0 x4_1)) := ⟨_, rfl⟩
   replace H : (laws_toByteS.l0 k1 l0 y397 (wrap64 (x4_1 + 1))) = some r := by first | (rw [hy397]; with_reducible exact H) | (have H2_ := (Option.bind_some _ _).symm.trans H; rw [hy397]; with_reducible exact H2_) | (have H2_ := (Option.bind_some _ _).symm.trans H; with_reducible exact H2_) | with_reducible exact H | (rw [hy397]; exact H) | exact H
   have Ny397 := Aside0.mk hy397
   clear hy397
   have H' := Aside0.mk H
   clear H
   have p396 : 0 ≤ (x4_1 : Int) := zT (by first | (with_reducible assumption) | assumption)
   have q396 : x4_1 < (l0.length : Int) := zT (by first | (with_reducible assumption) | assumption)
   obtain ⟨ad396, e396, hx396_0⟩ := Kd.at_int HR0.out x4_1 p396 q396
   cases e396
   replace hx396_0 := (HB.out.cell (zW w _ hx396_0)).trans hx396_0
   replace p396 := eq_true p396
   replace q396 := eq_true q396
   have p9 : 0 ≤ (x4_1 : Int) := zT (by first | (with_reducible assumption) | assumption)
   have q9 : (x4_1 : Int) < ((x3_1.length : Int) : Int) := zT (by first | (with_reducible assumption) | assumption)
   obtain ⟨go9, co9, eo9, gb9, gl9, cl9, HG9⟩ := Kd.R_form HO_3.out (by omega)
   (first | cases eo9 | (injection eo9 with ea_ en_ ec_; (first | subst ea_ | (injection ea_ with ea_; subst ea_)); subst ec_; clear en_))
   have GB9 := Aside0.mk gb9
   have GG9 := Aside0.mk HG9
   clear gb9 gl9 HG9
   obtain ⟨hx9_0, hf9_0⟩ := Kd.R_celln 0 HO_3.out (x4_1 : Int) p9 q9
   replace p9 := eq_true p9
   replace q9 := eq_true q9
   have HP10 := Kd.R_putg HO_3.out (x4_1 : Int) (rd l0 x4_1)
   go_wp2_with (first | ((with_reducible refine gate_store (t := 5) (p := 20) rfl ?_); refine store_event (t := 5) (p := 20) (v := ?vo_w11) (w1 := (wr.setCell ⟨go9, (x4_1 : Int).toNat, none⟩ (.int .u8 (rd l0 x4_1)))) ?hg ?ho ?hn ?hr ?_; (case ho => rfl); (case hg => rfl); (case hn => rfl); (case hr => first | (go_simp; done) | (go_simp; rfl)); intro w11 hw; have hg : wr.grownBy w11 (some go9) := (by rw [hw]; exact HP10.2); have hp_ : Kd.R (Kd.int .u8) 5 w11 w.heap.size (fun _ => True) (.slice (some ⟨go9, 0, none⟩) x3_1.length co9) y397 := (by rw [hw, Ny397.out]; exact HP10.1); clear HP10; have n0_ := Aside0.mk (hp_); have n1_ := Aside0.mk ((by rw [hw]; exact below_set (HB.out) GB9.out : Below w.heap.size w w11)); clear HO_3; clear HB; have HO_3 := n0_; have HB := n1_; clear n0_ n1_; clear hg hw hp_))
   go_roundg k1
   case measure => have := HK1.out; omega
   case rel => exact ⟨(y397), (wrap64 (x4_1 + 1)), (by first | rfl | (simp; done) | (simp [*]; done)), H', ⟨by have := HK1.out; omega⟩, ⟨by (with_reducible repeat (first | apply zRa | apply zRn | apply zRd)); first | exact HO_3.out | (subst_vars; exact HO_3.out)⟩, ⟨by repeat (first | (with_reducible first | exact HB.out | apply zBa | apply zBn | apply zBd) | exact HB.out)⟩⟩

end Go.Proofs.Ytieadaglkibjbaa.PFnExactOpenFrame
