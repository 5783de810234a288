-- A turned copy of the print's text.
import Derived.Test.YtapobpkeefeajaaPFnCleanx0
import Derived.Test.YtapobpkeefeajaaPFnCleanx12
namespace Go.Proofs.Ytapobpkeefeajaa.PFnClean
open Go.RowKit Go.Proofs.YtapobpkeefeajaaW.PrintWords Go.Proofs.YtapobpkeefeajaaW.PrintLast Go.Proofs.YtapobpkeefeajaaW.PrintMore
attribute [local go_sem] max2_int min2_int max_two min_two max_three min_three max_four min_four
set_option maxHeartbeats 8000000
set_option maxRecDepth 100000
set_option linter.unusedVariables false
set_option linter.unusedSimpArgs false
def spec_l1Below.f (s0_0 : List Int) (s0_1 : Int) (s0_2 : Int) (a1 : Int) : Option (Int × Int × Int) := if a1 ≤ 0 then (some (0, s0_1, s0_2)) else (if a1 ≤ 256 then ((spec_l1Byte.f s0_0 s0_1 s0_2).bind fun bt349 => (if a1 = 0 then (none) else (some (Int.tmod bt349.1 a1, bt349.2.1, bt349.2.2)))) else ((spec_l1Byte.f s0_0 s0_1 s0_2).bind fun bt352 => ((spec_l1Byte.f s0_0 bt352.2.1 bt352.2.2).bind fun bt355 => ((spec_l1Byte.f s0_0 bt355.2.1 bt355.2.2).bind fun bt358 => ((spec_l1Byte.f s0_0 bt358.2.1 bt358.2.2).bind fun bt361 => (if a1 = 0 then (none) else (some (Int.tmod (wrap64 ((wrap64 ((wrap64 ((wrap64 (bt352.1 * 16777216)) + (wrap64 (bt355.1 * 65536)))) + (wrap64 (bt358.1 * 256)))) + bt361.1)) a1, bt361.2.1, bt361.2.2))))))))
theorem spec_l1Below.calls (g : Nat) (s0_0 : List Int) (s0_1 : Int) (s0_2 : Int) (a1 : Int) (r1 : Int) (r2 : Int) (r3 : Int) (w0 w : World) (hI : IsS99 w0 w g s0_0 s0_1 s0_2) (hB : Below w0.heap.size w0 w) (H : spec_l1Below.f s0_0 s0_1 s0_2 a1 = some (r1, r2, r3)) :
 Calls Try.prog 47 #[.pointer (some ⟨g, 0, none⟩), .int .i64 a1] w fun e w' => e = .returned (.int .i64 r1) ∧ IsS99 w0 w' g s0_0 r2 r3 ∧ Below w0.heap.size w0 w' ∧ KeepBut w w' g none := by
 have HI0 := zM hI
 have HK := zM (KeepBut.refl w g none)
 have HL := zM hB.size
 clear hI
 have HW0 := zM hB.size
 have HB := zM hB
 clear hB
 unfold spec_l1Below.f at H
 replace H := zI2 H
 rcases H with ⟨c3, H⟩ | ⟨c3, H⟩
 case inl =>
  have c3b0 := zE c3
  clear c3
  simp only [Option.some.injEq, Prod.mk.injEq] at H
  obtain ⟨rfl, rfl, rfl⟩ := H
  go_enter Try.func47, Try.ntmps47
  go_wp2
  go_ret
  exact ⟨zq, zi HI0, zb6, zk⟩
 have c3b0 := decide_eq_false c3
 clear c3
 replace H := zI2 H
 rcases H with ⟨c4, H⟩ | ⟨c4, H⟩
 case inl =>
  have c4b0 := zE c4
  clear c4
  replace H := zP H
  obtain ⟨⟨t349, t350, t351⟩, A5, H⟩ := H
  dsimp only at H
  replace H := zI2 H
  rcases H with ⟨c6, H⟩ | ⟨c6, H⟩
  case inl =>
   exact absurd H (by simp)
  have c6b0 : (a1 == 0) = false := beq_eq_false_iff_ne.mpr c6
  have c6b1 : (a1 != 0) = true := bne_iff_ne.mpr c6
  simp only [Option.some.injEq, Prod.mk.injEq] at H
  obtain ⟨rfl, rfl, rfl⟩ := H
  go_enter Try.func47, Try.ntmps47
  go_wp2_with (first | ((with_reducible refine gate_callee (f := 95) rfl ?_); refine goesL_ (some 14) rfl rfl Try.func95 ze rfl #[.pointer (some ⟨g, 0, none⟩)] rfl zg ?_; (with_reducible refine (spec_l1Byte.calls g s0_0 s0_1 s0_2 t349 t350 t351 w0 _ ?side1 ?side2 A5.out).mono ?_); (case side1 => exact zi HI0); (case side2 => exact zb6); rintro e w7 ⟨rfl, hi, hb, hk⟩; refine ⟨_, rfl, ?_⟩; refine zS3 (KeepBut.trans zk hk (.inl rfl)) (hb) (hi) ?_; clear HK HB HI0; intro HK HB HI0; (try clear hb); (try clear hb2); (try clear hk); (try clear hi)))
  go_ret
  exact ⟨zq, zi HI0, zb6, zk⟩
 have c4b0 := decide_eq_false c4
 clear c4
 replace H := zP H
 obtain ⟨⟨t352, t353, t354⟩, A8, H⟩ := H
 dsimp only at H
 replace H := zP H
 obtain ⟨⟨t355, t356, t357⟩, A9, H⟩ := H
 dsimp only at H
 replace H := zP H
 obtain ⟨⟨t358, t359, t360⟩, A10, H⟩ := H
 dsimp only at H
 replace H := zP H
 obtain ⟨⟨t361, t362, t363⟩, A11, H⟩ := H
 dsimp only at H
 replace H := zI2 H
 rcases H with ⟨c12, H⟩ | ⟨c12, H⟩
 case inl =>
  exact absurd H (by simp)
 have c12b0 : (a1 == 0) = false := beq_eq_false_iff_ne.mpr c12
 have c12b1 : (a1 != 0) = true := bne_iff_ne.mpr c12
 simp only [Option.some.injEq, Prod.mk.injEq] at H
 obtain ⟨rfl, rfl, rfl⟩ := H
 go_enter Try.func47, Try.ntmps47
 go_wp2_with (first | ((with_reducible refine gate_callee (f := 95) rfl ?_); refine goesL_ (some 18) rfl rfl Try.func95 ze rfl #[.pointer (some ⟨g, 0, none⟩)] rfl zg ?_; (with_reducible refine (spec_l1Byte.calls g s0_0 s0_1 s0_2 t352 t353 t354 w0 _ ?side1 ?side2 A8.out).mono ?_); (case side1 => exact zi HI0); (case side2 => exact zb6); rintro e w13 ⟨rfl, hi, hb, hk⟩; refine ⟨_, rfl, ?_⟩; refine zS3 (KeepBut.trans zk hk (.inl rfl)) (hb) (hi) ?_; clear HK HB HI0; intro HK HB HI0; (try clear hb); (try clear hb2); (try clear hk); (try clear hi)) | ((with_reducible refine gate_callee (f := 95) rfl ?_); refine goesL_ (some 20) rfl rfl Try.func95 ze rfl #[.pointer (some ⟨g, 0, none⟩)] rfl zg ?_; (with_reducible refine (spec_l1Byte.calls g s0_0 t353 t354 t355 t356 t357 w0 _ ?side1 ?side2 A9.out).mono ?_); (case side1 => exact zi HI0); (case side2 => exact zb6); rintro e w14 ⟨rfl, hi, hb, hk⟩; refine ⟨_, rfl, ?_⟩; refine zS3 (KeepBut.trans zk hk (.inl rfl)) (hb) (hi) ?_; clear HK HB HI0; intro HK HB HI0; (try clear hb); (try clear hb2); (try clear hk); (try clear hi)) | ((with_reducible refine gate_callee (f := 95) rfl ?_); refine goesL_ (some 22) rfl rfl Try.func95 ze rfl #[.pointer (some ⟨g, 0, none⟩)] rfl zg ?_; (with_reducible refine (spec_l1Byte.calls g s0_0 t356 t357 t358 t359 t360 w0 _ ?side1 ?side2 A10.out).mono ?_); (case side1 => exact zi HI0); (case side2 => exact zb6); rintro e w15 ⟨rfl, hi, hb, hk⟩; refine ⟨_, rfl, ?_⟩; refine zS3 (KeepBut.trans zk hk (.inl rfl)) (hb) (hi) ?_; clear HK HB HI0; intro HK HB HI0; (try clear hb); (try clear hb2); (try clear hk); (try clear hi)) | ((with_reducible refine gate_callee (f := 95) rfl ?_); refine goesL_ (some 24) rfl rfl Try.func95 ze rfl #[.pointer (some ⟨g, 0, none⟩)] rfl zg ?_; (with_reducible refine (spec_l1Byte.calls g s0_0 t359 t360 t361 t362 t363 w0 _ ?side1 ?side2 A11.out).mono ?_); (case side1 => exact zi HI0); (case side2 => exact zb6); rintro e w16 ⟨rfl, hi, hb, hk⟩; refine ⟨_, rfl, ?_⟩; refine zS3 (KeepBut.trans zk hk (.inl rfl)) (hb) (hi) ?_; clear HK HB HI0; intro HK HB HI0; (try clear hb); (try clear hb2); (try clear hk); (try clear hi)))
 go_ret
 exact ⟨zq, zi HI0, zb6, zk⟩
def spec_l1PickInt.f (s0_0 : List Int) (s0_1 : Int) (s0_2 : Int) (l1 : List Int) : Option (Int × Int × Int) := (spec_l1Below.f s0_0 s0_1 s0_2 (l1.length : Int)).bind fun bt364 => (if 0 ≤ bt364.1 then (if bt364.1 < (l1.length : Int) then (some (rd l1 bt364.1, bt364.2.1, bt364.2.2)) else (none)) else (none))
theorem spec_l1PickInt.calls (g : Nat) (s0_0 : List Int) (s0_1 : Int) (s0_2 : Int) (A1 : Option Addr) (c1 : Nat) (l1 : List Int) (r1 : Int) (r2 : Int) (r3 : Int) (w0 w : World) (hI : IsS99 w0 w g s0_0 s0_1 s0_2) (hB : Below w0.heap.size w0 w) (hr1 : Kd.C (Kd.int .i64) w A1 l1.length l1) (hc1 : l1.length ≤ c1) (hf1 : ∀ ad, A1 = some ad → 0 < l1.length → ad.block ≠ g) (H : spec_l1PickInt.f s0_0 s0_1 s0_2 l1 = some (r1, r2, r3)) :
 Calls Try.prog 50 #[.pointer (some ⟨g, 0, none⟩), .slice A1 l1.length c1] w fun e w' => e = .returned (.int .i64 r1) ∧ IsS99 w0 w' g s0_0 r2 r3 ∧ Below w0.heap.size w0 w' ∧ KeepBut w w' g none := by
 have HR1 := zM hr1
 have HC1 := zM hc1
 clear hr1 hc1
 have HI0 := zM hI
 have HK := zM (KeepBut.refl w g none)
 have HL := zM hB.size
 clear hI
 have HW0 := zM hB.size
 have HB := zM hB
 clear hB
 unfold spec_l1PickInt.f at H
 replace H := zP H
 obtain ⟨⟨t364, t365, t366⟩, A3, H⟩ := H
 dsimp only at H
 replace H := zID H
 obtain ⟨c4b0, H⟩ := H
 replace H := zID H
 obtain ⟨c5b0, H⟩ := H
 simp only [Option.some.injEq, Prod.mk.injEq] at H
 obtain ⟨rfl, rfl, rfl⟩ := H
 go_enter Try.func50, Try.ntmps50
 go_wp2_with (first | ((with_reducible refine gate_callee (f := 47) rfl ?_); refine goesL_ (some 9) rfl rfl Try.func47 ze rfl #[.pointer (some ⟨g, 0, none⟩), .int .i64 (l1.length : Int)] rfl zg ?_; (with_reducible refine (spec_l1Below.calls g s0_0 s0_1 s0_2 (l1.length : Int) t364 t365 t366 w0 _ ?side1 ?side2 A3.out).mono ?_); (case side1 => exact zi HI0); (case side2 => exact zb6); rintro e w6 ⟨rfl, hi, hb, hk⟩; refine ⟨_, rfl, ?_⟩; refine zS3 (KeepBut.trans zk hk (.inl rfl)) (hb) (hi) ?_; clear HK HB HI0; intro HK HB HI0; (try clear hb); (try clear hb2); (try clear hk); (try clear hi); have p367 : 0 ≤ (t364 : Int) := zT (by assumption); have q367 : t364 < (l1.length : Int) := zT (by assumption); obtain ⟨ad367, e367, hx367_0⟩ := Kd.at_int HR1.out t364 p367 q367; cases e367; replace hx367_0 := keep_cell HK.out hx367_0 (by first | (rw [add_block]; exact hf1 _ rfl (by omega)) | exact hf1 _ rfl (by omega) | exact hf1 ad367 rfl (by omega)); replace p367 := eq_true p367; replace q367 := eq_true q367))
 go_ret
 exact ⟨zq, zi HI0, zb6, zk⟩
def spec_l18Draw.f (s0_0 : List Int) (s0_1 : Int) (s0_2 : Int) : Option (Int × Int × Int × Int × Int × Int × Int × Int) := (spec_l1PickInt.f s0_0 s0_1 s0_2 (([2, 4, 6, 8] : List Int))).bind fun bt372 => ((spec_l1Below.f s0_0 bt372.2.1 bt372.2.2 4).bind fun bt375 => ((spec_l1PickInt.f s0_0 bt375.2.1 bt375.2.2 (([1, 2, 5, 8, 64] : List Int))).bind fun bt381 => ((spec_l1Below.f s0_0 bt381.2.1 bt381.2.2 65535).bind fun bt384 => ((spec_l1Below.f s0_0 bt384.2.1 bt384.2.2 4).bind fun bt387 => ((spec_l1PickInt.f s0_0 bt387.2.1 bt387.2.2 (([1, 2, 3, 10, 100, 10000] : List Int))).bind fun bt393 => ((spec_l1Below.f s0_0 bt393.2.1 bt393.2.2 25).bind fun bt397 => (if bt397.1 = 0 then ((spec_l1PickInt.f s0_0 bt397.2.1 bt397.2.2 (([0, 3, 10] : List Int))).bind fun bt403 => (some (bt403.1, wrap64 (1 + bt375.1), bt381.1, wrap64 (1 + bt384.1), wrap64 (1 + bt387.1), bt393.1, bt403.2.1, bt403.2.2))) else (if bt397.1 = 1 then ((spec_l1PickInt.f s0_0 bt397.2.1 bt397.2.2 (([0, 8, 9] : List Int))).bind fun bt409 => (some (bt372.1, bt409.1, bt381.1, wrap64 (1 + bt384.1), wrap64 (1 + bt387.1), bt393.1, bt409.2.1, bt409.2.2))) else (if bt397.1 = 2 then ((spec_l1PickInt.f s0_0 bt397.2.1 bt397.2.2 (([0, 65536] : List Int))).bind fun bt415 => (some (bt372.1, wrap64 (1 + bt375.1), bt381.1, bt415.1, wrap64 (1 + bt387.1), bt393.1, bt415.2.1, bt415.2.2))) else (if bt397.1 = 3 then ((spec_l1PickInt.f s0_0 bt397.2.1 bt397.2.2 (([0, 8, 9] : List Int))).bind fun bt421 => (some (bt372.1, wrap64 (1 + bt375.1), bt381.1, wrap64 (1 + bt384.1), bt421.1, bt393.1, bt421.2.1, bt421.2.2))) else (if bt397.1 = 4 then ((spec_l1PickInt.f s0_0 bt397.2.1 bt397.2.2 (([0, 10001] : List Int))).bind fun bt427 => (some (bt372.1, wrap64 (1 + bt375.1), bt381.1, wrap64 (1 + bt384.1), wrap64 (1 + bt387.1), bt427.1, bt427.2.1, bt427.2.2))) else (if bt397.1 = 5 then ((spec_l1PickInt.f s0_0 bt397.2.1 bt397.2.2 (([0, 65] : List Int))).bind fun bt433 => (some (bt372.1, wrap64 (1 + bt375.1), bt433.1, wrap64 (1 + bt384.1), wrap64 (1 + bt387.1), bt393.1, bt433.2.1, bt433.2.2))) else (some (bt372.1, wrap64 (1 + bt375.1), bt381.1, wrap64 (1 + bt384.1), wrap64 (1 + bt387.1), bt393.1, bt397.2.1, bt397.2.2))))))))))))))
theorem spec_l18Draw.calls (g : Nat) (s0_0 : List Int) (s0_1 : Int) (s0_2 : Int) (r1 : Int) (r2 : Int) (r3 : Int) (r4 : Int) (r5 : Int) (r6 : Int) (r7 : Int) (r8 : Int) (w0 w : World) (hI : IsS99 w0 w g s0_0 s0_1 s0_2) (hB : Below w0.heap.size w0 w) (H : spec_l18Draw.f s0_0 s0_1 s0_2 = some (r1, r2, r3, r4, r5, r6, r7, r8)) :
 Calls Try.prog 46 #[.pointer (some ⟨g, 0, none⟩)] w fun e w' => e = .returned (.agg #[.int .i64 r1, .int .i64 r2, .int .i64 r3, .int .i64 r4, .int .i64 r5, .int .i64 r6]) ∧ IsS99 w0 w' g s0_0 r7 r8 ∧ Below w0.heap.size w0 w' ∧ KeepBut w w' g none := by
 have hu28 := Try.underlying28
 have HI0 := zM hI
 have HK := zM (KeepBut.refl w g none)
 have HL := zM hB.size
 clear hI
 have HW0 := zM hB.size
 have HB := zM hB
 clear hB
 unfold spec_l18Draw.f at H
 obtain ⟨y369, hy369⟩ : ∃ y_ : List Int, y_ = (([2, 4, 6, 8] : List Int)) := ⟨_, rfl⟩
 rw [← hy369] at H
 have Ny369 := zM hy369
 clear hy369
 replace H := zP H
 obtain ⟨⟨t372, t373, t374⟩, A2, H⟩ := H
 dsimp only at H
 replace H := zP H
 obtain ⟨⟨t375, t376, t377⟩, A3, H⟩ := H
 dsimp only at H
 obtain ⟨y378, hy378⟩ : ∃ y_ : List Int, y_ = (([1, 2, 5, 8, 64] : List Int)) := ⟨_, rfl⟩
 rw [← hy378] at H
 have Ny378 := zM hy378
 clear hy378
 replace H := zP H
 obtain ⟨⟨t381, t382, t383⟩, A4, H⟩ := H
 dsimp only at H
 replace H := zP H
 obtain ⟨⟨t384, t385, t386⟩, A5, H⟩ := H
 dsimp only at H
 replace H := zP H
 obtain ⟨⟨t387, t388, t389⟩, A6, H⟩ := H
 dsimp only at H
 obtain ⟨y390, hy390⟩ : ∃ y_ : List Int, y_ = (([1, 2, 3, 10, 100, 10000] : List Int)) := ⟨_, rfl⟩
 rw [← hy390] at H
 have Ny390 := zM hy390
 clear hy390
 replace H := zP H
 obtain ⟨⟨t393, t394, t395⟩, A7, H⟩ := H
 dsimp only at H
 replace H := zP H
 obtain ⟨⟨t397, t398, t399⟩, A8, H⟩ := H
 dsimp only at H
 replace H := zI2 H
 rcases H with ⟨c9, H⟩ | ⟨c9, H⟩
 have c9b0 : (t397 == 0) = true := beq_iff_eq.mpr c9
 have c9b1 : (t397 != 0) = false := bne_eq_false_iff_eq.mpr c9
 clear c9
 obtain ⟨y9000, hy9000⟩ : ∃ y_ : List Int, y_ = (([0, 3, 10] : List Int)) := ⟨_, rfl⟩
 rw [← hy9000] at H
 have Ny9000 := zM hy9000
 clear hy9000
 replace H := zP H
 obtain ⟨⟨t9000, t9001, t9002⟩, A9000, H⟩ := H
 dsimp only at H
 simp only [Option.some.injEq, Prod.mk.injEq] at H
 obtain ⟨rfl, rfl, rfl, rfl, rfl, rfl, rfl, rfl⟩ := H
 rotate_left
 have c9b0 : (t397 == 0) = false := beq_eq_false_iff_ne.mpr c9
 have c9b1 : (t397 != 0) = true := bne_iff_ne.mpr c9
 replace H := zI2 H
 rcases H with ⟨c39, H⟩ | ⟨c39, H⟩
 have c39b0 : (t397 == 1) = true := beq_iff_eq.mpr c39
 have c39b1 : (t397 != 1) = false := bne_eq_false_iff_eq.mpr c39
 clear c39
 obtain ⟨y9000, hy9000⟩ : ∃ y_ : List Int, y_ = (([0, 8, 9] : List Int)) := ⟨_, rfl⟩
 rw [← hy9000] at H
 have Ny9000 := zM hy9000
 clear hy9000
 replace H := zP H
 obtain ⟨⟨t9000, t9001, t9002⟩, A9000, H⟩ := H
 dsimp only at H
 simp only [Option.some.injEq, Prod.mk.injEq] at H
 obtain ⟨rfl, rfl, rfl, rfl, rfl, rfl, rfl, rfl⟩ := H
 rotate_left
 have c39b0 : (t397 == 1) = false := beq_eq_false_iff_ne.mpr c39
 have c39b1 : (t397 != 1) = true := bne_iff_ne.mpr c39
 replace H := zI2 H
 rcases H with ⟨c69, H⟩ | ⟨c69, H⟩
 have c69b0 : (t397 == 2) = true := beq_iff_eq.mpr c69
 have c69b1 : (t397 != 2) = false := bne_eq_false_iff_eq.mpr c69
 clear c69
 obtain ⟨y9000, hy9000⟩ : ∃ y_ : List Int, y_ = (([0, 65536] : List Int)) := ⟨_, rfl⟩
 rw [← hy9000] at H
 have Ny9000 := zM hy9000
 clear hy9000
 replace H := zP H
 obtain ⟨⟨t9000, t9001, t9002⟩, A9000, H⟩ := H
 dsimp only at H
 simp only [Option.some.injEq, Prod.mk.injEq] at H
 obtain ⟨rfl, rfl, rfl, rfl, rfl, rfl, rfl, rfl⟩ := H
 rotate_left
 have c69b0 : (t397 == 2) = false := beq_eq_false_iff_ne.mpr c69
 have c69b1 : (t397 != 2) = true := bne_iff_ne.mpr c69
 replace H := zI2 H
 rcases H with ⟨c99, H⟩ | ⟨c99, H⟩
 have c99b0 : (t397 == 3) = true := beq_iff_eq.mpr c99
 have c99b1 : (t397 != 3) = false := bne_eq_false_iff_eq.mpr c99
 clear c99
 obtain ⟨y9000, hy9000⟩ : ∃ y_ : List Int, y_ = (([0, 8, 9] : List Int)) := ⟨_, rfl⟩
 rw [← hy9000] at H
 have Ny9000 := zM hy9000
 clear hy9000
 replace H := zP H
 obtain ⟨⟨t9000, t9001, t9002⟩, A9000, H⟩ := H
 dsimp only at H
 simp only [Option.some.injEq, Prod.mk.injEq] at H
 obtain ⟨rfl, rfl, rfl, rfl, rfl, rfl, rfl, rfl⟩ := H
 rotate_left
 have c99b0 : (t397 == 3) = false := beq_eq_false_iff_ne.mpr c99
 have c99b1 : (t397 != 3) = true := bne_iff_ne.mpr c99
 replace H := zI2 H
 rcases H with ⟨c129, H⟩ | ⟨c129, H⟩
 have c129b0 : (t397 == 4) = true := beq_iff_eq.mpr c129
 have c129b1 : (t397 != 4) = false := bne_eq_false_iff_eq.mpr c129
 clear c129
 obtain ⟨y9000, hy9000⟩ : ∃ y_ : List Int, y_ = (([0, 10001] : List Int)) := ⟨_, rfl⟩
 rw [← hy9000] at H
 have Ny9000 := zM hy9000
 clear hy9000
 replace H := zP H
 obtain ⟨⟨t9000, t9001, t9002⟩, A9000, H⟩ := H
 dsimp only at H
 simp only [Option.some.injEq, Prod.mk.injEq] at H
 obtain ⟨rfl, rfl, rfl, rfl, rfl, rfl, rfl, rfl⟩ := H
 rotate_left
 have c129b0 : (t397 == 4) = false := beq_eq_false_iff_ne.mpr c129
 have c129b1 : (t397 != 4) = true := bne_iff_ne.mpr c129
 replace H := zI2 H
 rcases H with ⟨c159, H⟩ | ⟨c159, H⟩
 have c159b0 : (t397 == 5) = true := beq_iff_eq.mpr c159
 have c159b1 : (t397 != 5) = false := bne_eq_false_iff_eq.mpr c159
 clear c159
 obtain ⟨y9000, hy9000⟩ : ∃ y_ : List Int, y_ = (([0, 65] : List Int)) := ⟨_, rfl⟩
 rw [← hy9000] at H
 have Ny9000 := zM hy9000
 clear hy9000
 replace H := zP H
 obtain ⟨⟨t9000, t9001, t9002⟩, A9000, H⟩ := H
 dsimp only at H
 simp only [Option.some.injEq, Prod.mk.injEq] at H
 obtain ⟨rfl, rfl, rfl, rfl, rfl, rfl, rfl, rfl⟩ := H
 rotate_left
 have c159b0 : (t397 == 5) = false := beq_eq_false_iff_ne.mpr c159
 have c159b1 : (t397 != 5) = true := bne_iff_ne.mpr c159
 simp only [Option.some.injEq, Prod.mk.injEq] at H
 obtain ⟨rfl, rfl, rfl, rfl, rfl, rfl, rfl, rfl⟩ := H
 all_goals
  go_enter Try.func46, Try.ntmps46
  go_wp2_with (first | ((with_reducible refine gate_dst (N := 2) rfl ?_); refine box_event ?hg (N := 2) ?hd (cs := #[.int .i64 0, .int .i64 0, .int .i64 0, .int .i64 0, .int .i64 0, .int .i64 0]) (t := 28) ?hr ?_; (case hd | hg => rfl); (case hr => exact zh); intro gb368 hg w700 hbox hb; refine zS8 (IsS99.below (zi HI0) hb) (KeepBut.trans zk (KeepBut.of_below hb g none) (.inl rfl)) (below_step zb6 hb) (hbox) ((zw hg (keep_size (w := w) (g := g) (row := none) zk))) ((Nat.le_trans HW0.out (zw hg (keep_size (w := w) (g := g) (row := none) zk)) : w0.heap.size ≤ gb368)) ((by rw [hg]; exact Nat.ne_of_lt (IsS99.lt (show IsS99 w0 _ g s0_0 s0_1 s0_2 from zi HI0)) : g ≠ gb368)) ((by rw [hg]; exact Nat.ne_of_gt (IsS99.lt (show IsS99 w0 _ g s0_0 s0_1 s0_2 from zi HI0)) : gb368 ≠ g)) ?_; clear HI0 HK HB; intro HI0 HK HB BK368 GW368 GE368 NB0_368 NB368_0; clear hb hbox hg) | ((with_reducible refine gate_dst (N := 5) rfl ?_); refine Kd.R_lit (Kd.int .i64) _ 3 ?hg (N := 5) ?hd (xs := ([2, 4, 6, 8] : List Int)) (inner := [.int .i64 2, .int .i64 4, .int .i64 6, .int .i64 8]) (ok := fun _ => True) (okp := fun _ => True) ?hr ?hp (fun _ hk => hk) trivial (Below.refl _ _) (Nat.le_refl _) (by simp) ?_; (case hd | hg => rfl); (case hr => exact zh); (case hp => exact (Reps.one (show Kd.M (Kd.int .i64) _ _ _ 2 [.int .i64 2] from rfl) (Reps.one (show Kd.M (Kd.int .i64) _ _ _ 4 [.int .i64 4] from rfl) (Reps.one (show Kd.M (Kd.int .i64) _ _ _ 6 [.int .i64 6] from rfl) (Reps.one (show Kd.M (Kd.int .i64) _ _ _ 8 [.int .i64 8] from rfl) (Reps.none _ _)))))); intro v370 w701 ho702 hb hg_ hnew_; clear hg_ hnew_; (first | rw [← Ny369.out] at ho702 | simp only [Int.reduceToNat, ← Ny369.out] at ho702); refine zS5 (Kd.R_lower ho702 (keep_size (w := w) (g := g) (row := none) zk1)) (IsS99.below (zi1 HI0) hb) (zNb (g := gb368) (o := .cells #[.int .i64 0, .int .i64 0, .int .i64 0, .int .i64 0, .int .i64 0, .int .i64 0] 28 (0, 0)) (zn BK368) hb) (KeepBut.trans zk1 (KeepBut.of_below hb g none) (.inl rfl)) (below_step zb7 hb) ?_; clear HI0 BK368 HK HB; intro HO371 HI0 BK368 HK HB; clear hb ho702; obtain ⟨Ao703, co704, eo705⟩ := Kd.R_slice HO371.out; subst eo705) | ((with_reducible refine gate_callee (f := 50) rfl ?_); refine goesL_ (some 6) rfl rfl Try.func50 ze rfl #[.pointer (some ⟨g, 0, none⟩), .slice Ao703 y369.length co704] rfl zg ?_; (with_reducible refine (spec_l1PickInt.calls g s0_0 s0_1 s0_2 _ _ y369 t372 t373 t374 w0 _ ?side1 ?side2 ?side3 ?side4 ?side5 A2.out).mono ?_); (case side1 => exact zi1 HI0); (case side2 => exact zb7); (case side3 => exact zc (Kd.R_reads' HO371.out).2.2); (case side4 => exact (Kd.R_reads' HO371.out).2.1); (case side5 => exact far_slice (IsS99.own_ne HI0.out HO371.out (by decide))); rintro e w706 ⟨rfl, hi, hb, hk⟩; refine ⟨_, rfl, ?_⟩; refine zS5 (KeepBut.blk hk (g' := gb368) (o := .cells #[.int .i64 0, .int .i64 0, .int .i64 0, .int .i64 0, .int .i64 0, .int .i64 0] 28 (0, 0)) (zn BK368) NB368_0.out (by simp)) (Kd.R_mono (Kd.R_keep (IsS99.apart (show IsS99 w0 _ g s0_0 s0_1 s0_2 from zi1 HI0) (zr HO371) (by decide)) hk (fun _ h => h.2)) (fun _ h => h.1)) (KeepBut.trans zk1 hk (.inl rfl)) (hb) (hi) ?_; clear BK368 HO371 HK HB HI0; intro BK368 HO371 HK HB HI0; (try clear hb); (try clear hb2); (try clear hk); (try clear hi)) | ((with_reducible refine gate_callee (f := 47) rfl ?_); refine goesL_ (some 8) rfl rfl Try.func47 ze rfl #[.pointer (some ⟨g, 0, none⟩), .int .i64 4] rfl zg ?_; (with_reducible refine (spec_l1Below.calls g s0_0 t373 t374 4 t375 t376 t377 w0 _ ?side1 ?side2 A3.out).mono ?_); (case side1 => exact zi1 HI0); (case side2 => exact zb7); rintro e w707 ⟨rfl, hi, hb, hk⟩; refine ⟨_, rfl, ?_⟩; refine zS5 (KeepBut.blk hk (g' := gb368) (o := .cells #[.int .i64 0, .int .i64 0, .int .i64 0, .int .i64 0, .int .i64 0, .int .i64 0] 28 (0, 0)) (zn BK368) NB368_0.out (by simp)) (Kd.R_mono (Kd.R_keep (IsS99.apart (show IsS99 w0 _ g s0_0 t373 t374 from zi1 HI0) (zr HO371) (by decide)) hk (fun _ h => h.2)) (fun _ h => h.1)) (KeepBut.trans zk1 hk (.inl rfl)) (hb) (hi) ?_; clear BK368 HO371 HK HB HI0; intro BK368 HO371 HK HB HI0; (try clear hb); (try clear hb2); (try clear hk); (try clear hi)) | ((with_reducible refine gate_dst (N := 11) rfl ?_); refine Kd.R_lit (Kd.int .i64) _ 3 ?hg (N := 11) ?hd (xs := ([1, 2, 5, 8, 64] : List Int)) (inner := [.int .i64 1, .int .i64 2, .int .i64 5, .int .i64 8, .int .i64 64]) (ok := fun _ => True) (okp := fun _ => True) ?hr ?hp (fun _ hk => hk) trivial (Below.refl _ _) (Nat.le_refl _) (by simp) ?_; (case hd | hg => rfl); (case hr => exact zh); (case hp => exact (Reps.one (show Kd.M (Kd.int .i64) _ _ _ 1 [.int .i64 1] from rfl) (Reps.one (show Kd.M (Kd.int .i64) _ _ _ 2 [.int .i64 2] from rfl) (Reps.one (show Kd.M (Kd.int .i64) _ _ _ 5 [.int .i64 5] from rfl) (Reps.one (show Kd.M (Kd.int .i64) _ _ _ 8 [.int .i64 8] from rfl) (Reps.one (show Kd.M (Kd.int .i64) _ _ _ 64 [.int .i64 64] from rfl) (Reps.none _ _))))))); intro v379 w708 ho709 hb hg_ hnew_; clear hg_ hnew_; (first | rw [← Ny378.out] at ho709 | simp only [Int.reduceToNat, ← Ny378.out] at ho709); refine zS6 (Kd.R_elder' (zr HO371) (Kd.R_base ho709) hb) (Kd.R_lower (Kd.R_new' ho709 (Kd.R_lt (zr HO371))) (keep_size (w := w) (g := g) (row := none) zk1)) (IsS99.below (zi1 HI0) hb) (zNb (g := gb368) (o := .cells #[.int .i64 0, .int .i64 0, .int .i64 0, .int .i64 0, .int .i64 0, .int .i64 0] 28 (0, 0)) (zn BK368) hb) (KeepBut.trans zk1 (KeepBut.of_below hb g none) (.inl rfl)) (below_step zb7 hb) ?_; clear HO371 HI0 BK368 HK HB; intro HO371 HO380 HI0 BK368 HK HB; clear hb ho709; obtain ⟨Ao710, co711, eo712⟩ := Kd.R_slice HO380.out; subst eo712) | ((with_reducible refine gate_callee (f := 50) rfl ?_); refine goesL_ (some 12) rfl rfl Try.func50 ze rfl #[.pointer (some ⟨g, 0, none⟩), .slice Ao710 y378.length co711] rfl zg ?_; (with_reducible refine (spec_l1PickInt.calls g s0_0 t376 t377 _ _ y378 t381 t382 t383 w0 _ ?side1 ?side2 ?side3 ?side4 ?side5 A4.out).mono ?_); (case side1 => exact zi1 HI0); (case side2 => exact zb7); (case side3 => exact zc (Kd.R_reads' HO380.out).2.2); (case side4 => exact (Kd.R_reads' HO380.out).2.1); (case side5 => exact far_slice (IsS99.own_ne HI0.out HO380.out (by decide))); rintro e w713 ⟨rfl, hi, hb, hk⟩; refine ⟨_, rfl, ?_⟩; refine zS6 (KeepBut.blk hk (g' := gb368) (o := .cells #[.int .i64 0, .int .i64 0, .int .i64 0, .int .i64 0, .int .i64 0, .int .i64 0] 28 (0, 0)) (zn BK368) NB368_0.out (by simp)) (Kd.R_mono (Kd.R_keep (IsS99.apart (show IsS99 w0 _ g s0_0 t376 t377 from zi1 HI0) (zr HO371) (by decide)) hk (fun _ h => h.2)) (fun _ h => h.1)) (Kd.R_mono (Kd.R_keep (IsS99.apart (show IsS99 w0 _ g s0_0 t376 t377 from zi1 HI0) (zr HO380) (by decide)) hk (fun _ h => h.2)) (fun _ h => h.1)) (KeepBut.trans zk1 hk (.inl rfl)) (hb) (hi) ?_; clear BK368 HO371 HO380 HK HB HI0; intro BK368 HO371 HO380 HK HB HI0; (try clear hb); (try clear hb2); (try clear hk); (try clear hi)) | ((with_reducible refine gate_callee (f := 47) rfl ?_); refine goesL_ (some 14) rfl rfl Try.func47 ze rfl #[.pointer (some ⟨g, 0, none⟩), .int .i64 65535] rfl zg ?_; (with_reducible refine (spec_l1Below.calls g s0_0 t382 t383 65535 t384 t385 t386 w0 _ ?side1 ?side2 A5.out).mono ?_); (case side1 => exact zi1 HI0); (case side2 => exact zb7); rintro e w714 ⟨rfl, hi, hb, hk⟩; refine ⟨_, rfl, ?_⟩; refine zS6 (KeepBut.blk hk (g' := gb368) (o := .cells #[.int .i64 0, .int .i64 0, .int .i64 0, .int .i64 0, .int .i64 0, .int .i64 0] 28 (0, 0)) (zn BK368) NB368_0.out (by simp)) (Kd.R_mono (Kd.R_keep (IsS99.apart (show IsS99 w0 _ g s0_0 t382 t383 from zi1 HI0) (zr HO371) (by decide)) hk (fun _ h => h.2)) (fun _ h => h.1)) (Kd.R_mono (Kd.R_keep (IsS99.apart (show IsS99 w0 _ g s0_0 t382 t383 from zi1 HI0) (zr HO380) (by decide)) hk (fun _ h => h.2)) (fun _ h => h.1)) (KeepBut.trans zk1 hk (.inl rfl)) (hb) (hi) ?_; clear BK368 HO371 HO380 HK HB HI0; intro BK368 HO371 HO380 HK HB HI0; (try clear hb); (try clear hb2); (try clear hk); (try clear hi)) | ((with_reducible refine gate_callee (f := 47) rfl ?_); refine goesL_ (some 17) rfl rfl Try.func47 ze rfl #[.pointer (some ⟨g, 0, none⟩), .int .i64 4] rfl zg ?_; (with_reducible refine (spec_l1Below.calls g s0_0 t385 t386 4 t387 t388 t389 w0 _ ?side1 ?side2 A6.out).mono ?_); (case side1 => exact zi1 HI0); (case side2 => exact zb7); rintro e w715 ⟨rfl, hi, hb, hk⟩; refine ⟨_, rfl, ?_⟩; refine zS6 (KeepBut.blk hk (g' := gb368) (o := .cells #[.int .i64 0, .int .i64 0, .int .i64 0, .int .i64 0, .int .i64 0, .int .i64 0] 28 (0, 0)) (zn BK368) NB368_0.out (by simp)) (Kd.R_mono (Kd.R_keep (IsS99.apart (show IsS99 w0 _ g s0_0 t385 t386 from zi1 HI0) (zr HO371) (by decide)) hk (fun _ h => h.2)) (fun _ h => h.1)) (Kd.R_mono (Kd.R_keep (IsS99.apart (show IsS99 w0 _ g s0_0 t385 t386 from zi1 HI0) (zr HO380) (by decide)) hk (fun _ h => h.2)) (fun _ h => h.1)) (KeepBut.trans zk1 hk (.inl rfl)) (hb) (hi) ?_; clear BK368 HO371 HO380 HK HB HI0; intro BK368 HO371 HO380 HK HB HI0; (try clear hb); (try clear hb2); (try clear hk); (try clear hi)) | ((with_reducible refine gate_dst (N := 20) rfl ?_); refine Kd.R_lit (Kd.int .i64) _ 3 ?hg (N := 20) ?hd (xs := ([1, 2, 3, 10, 100, 10000] : List Int)) (inner := [.int .i64 1, .int .i64 2, .int .i64 3, .int .i64 10, .int .i64 100, .int .i64 10000]) (ok := fun _ => True) (okp := fun _ => True) ?hr ?hp (fun _ hk => hk) trivial (Below.refl _ _) (Nat.le_refl _) (by simp) ?_; (case hd | hg => rfl); (case hr => exact zh); (case hp => exact (Reps.one (show Kd.M (Kd.int .i64) _ _ _ 1 [.int .i64 1] from rfl) (Reps.one (show Kd.M (Kd.int .i64) _ _ _ 2 [.int .i64 2] from rfl) (Reps.one (show Kd.M (Kd.int .i64) _ _ _ 3 [.int .i64 3] from rfl) (Reps.one (show Kd.M (Kd.int .i64) _ _ _ 10 [.int .i64 10] from rfl) (Reps.one (show Kd.M (Kd.int .i64) _ _ _ 100 [.int .i64 100] from rfl) (Reps.one (show Kd.M (Kd.int .i64) _ _ _ 10000 [.int .i64 10000] from rfl) (Reps.none _ _)))))))); intro v391 w716 ho717 hb hg_ hnew_; clear hg_ hnew_; (first | rw [← Ny390.out] at ho717 | simp only [Int.reduceToNat, ← Ny390.out] at ho717); refine zS7 (Kd.R_elder' (zr HO371) (Kd.R_base ho717) hb) (Kd.R_elder' (zr HO380) (Kd.R_base ho717) hb) (Kd.R_lower (Kd.R_new' (Kd.R_new' ho717 (Kd.R_lt (zr HO371))) (Kd.R_lt (zr HO380))) (keep_size (w := w) (g := g) (row := none) zk1)) (IsS99.below (zi1 HI0) hb) (zNb (g := gb368) (o := .cells #[.int .i64 0, .int .i64 0, .int .i64 0, .int .i64 0, .int .i64 0, .int .i64 0] 28 (0, 0)) (zn BK368) hb) (KeepBut.trans zk1 (KeepBut.of_below hb g none) (.inl rfl)) (below_step zb7 hb) ?_; clear HO371 HO380 HI0 BK368 HK HB; intro HO371 HO380 HO392 HI0 BK368 HK HB; clear hb ho717; obtain ⟨Ao718, co719, eo720⟩ := Kd.R_slice HO392.out; subst eo720) | ((with_reducible refine gate_callee (f := 50) rfl ?_); refine goesL_ (some 21) rfl rfl Try.func50 ze rfl #[.pointer (some ⟨g, 0, none⟩), .slice Ao718 y390.length co719] rfl zg ?_; (with_reducible refine (spec_l1PickInt.calls g s0_0 t388 t389 _ _ y390 t393 t394 t395 w0 _ ?side1 ?side2 ?side3 ?side4 ?side5 A7.out).mono ?_); (case side1 => exact zi1 HI0); (case side2 => exact zb7); (case side3 => exact zc (Kd.R_reads' HO392.out).2.2); (case side4 => exact (Kd.R_reads' HO392.out).2.1); (case side5 => exact far_slice (IsS99.own_ne HI0.out HO392.out (by decide))); rintro e w721 ⟨rfl, hi, hb, hk⟩; refine ⟨_, rfl, ?_⟩; refine zS7 (KeepBut.blk hk (g' := gb368) (o := .cells #[.int .i64 0, .int .i64 0, .int .i64 0, .int .i64 0, .int .i64 0, .int .i64 0] 28 (0, 0)) (zn BK368) NB368_0.out (by simp)) (Kd.R_mono (Kd.R_keep (IsS99.apart (show IsS99 w0 _ g s0_0 t388 t389 from zi1 HI0) (zr HO371) (by decide)) hk (fun _ h => h.2)) (fun _ h => h.1)) (Kd.R_mono (Kd.R_keep (IsS99.apart (show IsS99 w0 _ g s0_0 t388 t389 from zi1 HI0) (zr HO380) (by decide)) hk (fun _ h => h.2)) (fun _ h => h.1)) (Kd.R_mono (Kd.R_keep (IsS99.apart (show IsS99 w0 _ g s0_0 t388 t389 from zi1 HI0) (zr HO392) (by decide)) hk (fun _ h => h.2)) (fun _ h => h.1)) (KeepBut.trans zk1 hk (.inl rfl)) (hb) (hi) ?_; clear BK368 HO371 HO380 HO392 HK HB HI0; intro BK368 HO371 HO380 HO392 HK HB HI0; (try clear hb); (try clear hb2); (try clear hk); (try clear hi)) | ((with_reducible refine gate_dst (N := 3) rfl ?_); refine box_event ?hg (N := 3) ?hd (cs := #[.int .i64 0, .int .i64 0, .int .i64 0, .int .i64 0, .int .i64 0, .int .i64 0]) (t := 28) ?hr ?_; (case hd | hg => rfl); (case hr => exact zh); intro gb396 hg w722 hbox hb; refine zS14 (Kd.R_below (zr HO371) hb) (Kd.R_below (zr HO380) hb) (Kd.R_below (zr HO392) hb) (IsS99.below (zi1 HI0) hb) (zNb (g := gb368) (o := .cells #[.int .i64 0, .int .i64 0, .int .i64 0, .int .i64 0, .int .i64 0, .int .i64 0] 28 (0, 0)) (zn BK368) hb) (KeepBut.trans zk1 (KeepBut.of_below hb g none) (.inl rfl)) (below_step zb7 hb) (hbox) ((zw hg (keep_size (w := w) (g := g) (row := none) zk1))) ((Nat.le_trans HW0.out (zw hg (keep_size (w := w) (g := g) (row := none) zk1)) : w0.heap.size ≤ gb396)) ((by rw [hg]; exact Nat.ne_of_lt (by simpa using blk_lt BK368.out) : gb368 ≠ gb396)) ((by rw [hg]; exact Nat.ne_of_gt (by simpa using blk_lt BK368.out) : gb396 ≠ gb368)) ((by rw [hg]; exact Nat.ne_of_lt (IsS99.lt (show IsS99 w0 _ g s0_0 t394 t395 from zi1 HI0)) : g ≠ gb396)) ((by rw [hg]; exact Nat.ne_of_gt (IsS99.lt (show IsS99 w0 _ g s0_0 t394 t395 from zi1 HI0)) : gb396 ≠ g)) ?_; clear HO371 HO380 HO392 HI0 BK368 HK HB; intro HO371 HO380 HO392 HI0 BK368 HK HB BK396 GW396 GE396 NB368_396 NB396_368 NB0_396 NB396_0; clear hb hbox hg; have hnb723 := NB396_368.out; have hnc724 := NB368_396.out; have hnb725 := NB396_0.out; have hnc726 := NB0_396.out; obtain ⟨hcz727_0, hcz727_1, hcz727_2, hcz727_3, hcz727_4, hcz727_5, hfz728_0, hfz728_1, hfz728_2, hfz728_3, hfz728_4, hfz728_5⟩ := zc6 BK396.out) | ((with_reducible refine gate_callee (f := 47) rfl ?_); refine goesL_ (some 24) rfl rfl Try.func47 ze rfl #[.pointer (some ⟨g, 0, none⟩), .int .i64 25] rfl zg ?_; (with_reducible refine (spec_l1Below.calls g s0_0 t394 t395 25 t397 t398 t399 w0 _ ?side1 ?side2 A8.out).mono ?_); (case side1 => exact zi2 HI0); (case side2 => exact zb8); rintro e w729 ⟨rfl, hi, hb, hk⟩; refine ⟨_, rfl, ?_⟩; refine zS8 (KeepBut.blk hk (g' := gb368) (o := .cells #[.int .i64 0, .int .i64 0, .int .i64 0, .int .i64 0, .int .i64 0, .int .i64 0] 28 (0, 0)) (zn2 BK368) NB368_0.out (by simp)) (Kd.R_mono (Kd.R_keep (IsS99.apart (show IsS99 w0 _ g s0_0 t394 t395 from zi2 HI0) (by (with_reducible repeat (first | apply zRa | apply zRn | apply zRd)); exact (Kd.R_mono (Kd.R_far (p := ⟨gb396, 5, none⟩) (Kd.R_far (p := ⟨gb396, 4, none⟩) (Kd.R_far (p := ⟨gb396, 3, none⟩) (Kd.R_far (p := ⟨gb396, 2, none⟩) (Kd.R_far (p := ⟨gb396, 1, none⟩) (Kd.R_far (p := ⟨gb396, 0, none⟩) (Kd.R_types HO371.out BK396.out (by decide)) (fun _ hk => hk.2) (.int .i64 t372)) (fun _ hk => hk.2) (.int .i64 (wrap64 (1 + t375)))) (fun _ hk => hk.2) (.int .i64 t381)) (fun _ hk => hk.2) (.int .i64 (wrap64 (1 + t384)))) (fun _ hk => hk.2) (.int .i64 (wrap64 (1 + t387)))) (fun _ hk => hk.2) (.int .i64 t393)) (fun _ h_ => h_.1))) (by decide)) hk (fun _ h => h.2)) (fun _ h => h.1)) (Kd.R_mono (Kd.R_keep (IsS99.apart (show IsS99 w0 _ g s0_0 t394 t395 from zi2 HI0) (by (with_reducible repeat (first | apply zRa | apply zRn | apply zRd)); exact (Kd.R_mono (Kd.R_far (p := ⟨gb396, 5, none⟩) (Kd.R_far (p := ⟨gb396, 4, none⟩) (Kd.R_far (p := ⟨gb396, 3, none⟩) (Kd.R_far (p := ⟨gb396, 2, none⟩) (Kd.R_far (p := ⟨gb396, 1, none⟩) (Kd.R_far (p := ⟨gb396, 0, none⟩) (Kd.R_types HO380.out BK396.out (by decide)) (fun _ hk => hk.2) (.int .i64 t372)) (fun _ hk => hk.2) (.int .i64 (wrap64 (1 + t375)))) (fun _ hk => hk.2) (.int .i64 t381)) (fun _ hk => hk.2) (.int .i64 (wrap64 (1 + t384)))) (fun _ hk => hk.2) (.int .i64 (wrap64 (1 + t387)))) (fun _ hk => hk.2) (.int .i64 t393)) (fun _ h_ => h_.1))) (by decide)) hk (fun _ h => h.2)) (fun _ h => h.1)) (Kd.R_mono (Kd.R_keep (IsS99.apart (show IsS99 w0 _ g s0_0 t394 t395 from zi2 HI0) (by (with_reducible repeat (first | apply zRa | apply zRn | apply zRd)); exact (Kd.R_mono (Kd.R_far (p := ⟨gb396, 5, none⟩) (Kd.R_far (p := ⟨gb396, 4, none⟩) (Kd.R_far (p := ⟨gb396, 3, none⟩) (Kd.R_far (p := ⟨gb396, 2, none⟩) (Kd.R_far (p := ⟨gb396, 1, none⟩) (Kd.R_far (p := ⟨gb396, 0, none⟩) (Kd.R_types HO392.out BK396.out (by decide)) (fun _ hk => hk.2) (.int .i64 t372)) (fun _ hk => hk.2) (.int .i64 (wrap64 (1 + t375)))) (fun _ hk => hk.2) (.int .i64 t381)) (fun _ hk => hk.2) (.int .i64 (wrap64 (1 + t384)))) (fun _ hk => hk.2) (.int .i64 (wrap64 (1 + t387)))) (fun _ hk => hk.2) (.int .i64 t393)) (fun _ h_ => h_.1))) (by decide)) hk (fun _ h => h.2)) (fun _ h => h.1)) (KeepBut.blk hk (g' := gb396) (o := .cells #[.int .i64 t372, .int .i64 (wrap64 (1 + t375)), .int .i64 t381, .int .i64 (wrap64 (1 + t384)), .int .i64 (wrap64 (1 + t387)), .int .i64 t393] 28 (0, 0)) (by (with_reducible repeat (first | apply zNn | apply zNd | apply zNa)); exact blk_put (blk_put (blk_put (blk_put (blk_put (blk_put (BK396.out) 0 _ rfl) 1 _ rfl) 2 _ rfl) 3 _ rfl) 4 _ rfl) 5 _ rfl) NB396_0.out (by simp)) (KeepBut.trans zk2 hk (.inl rfl)) (hb) (hi) ?_; clear BK368 HO371 HO380 HO392 BK396 HK HB HI0; intro BK368 HO371 HO380 HO392 BK396 HK HB HI0; (try clear hb); (try clear hb2); (try clear hk); (try clear hi); obtain ⟨hcz730_0, hcz730_1, hcz730_2, hcz730_3, hcz730_4, hcz730_5, hfz731_0, hfz731_1, hfz731_2, hfz731_3, hfz731_4, hfz731_5⟩ := zc6 BK396.out; have hnb732 := NB368_0.out; have hnc733 := NB0_368.out; obtain ⟨hcz734_0, hcz734_1, hcz734_2, hcz734_3, hcz734_4, hcz734_5, hfz735_0, hfz735_1, hfz735_2, hfz735_3, hfz735_4, hfz735_5⟩ := zc6 BK368.out) | ((with_reducible refine gate_callee (f := 47) rfl ?_); refine goesL_ (some 24) rfl rfl Try.func47 ze rfl #[.pointer (some ⟨g, 0, none⟩), .int .i64 25] rfl zg ?_; (with_reducible refine (spec_l1Below.calls g s0_0 t394 t395 25 t397 t398 t399 w0 _ ?side1 ?side2 A8.out).mono ?_); (case side1 => exact zi2 HI0); (case side2 => exact zb8); rintro e w729 ⟨rfl, hi, hb, hk⟩; refine ⟨_, rfl, ?_⟩; refine zS8 (KeepBut.blk hk (g' := gb368) (o := .cells #[.int .i64 0, .int .i64 0, .int .i64 0, .int .i64 0, .int .i64 0, .int .i64 0] 28 (0, 0)) (zn2 BK368) NB368_0.out (by simp)) (Kd.R_mono (Kd.R_keep (IsS99.apart (show IsS99 w0 _ g s0_0 t394 t395 from zi2 HI0) (by (with_reducible repeat (first | apply zRa | apply zRn | apply zRd)); exact (Kd.R_mono (Kd.R_far (p := ⟨gb396, 5, none⟩) (Kd.R_far (p := ⟨gb396, 4, none⟩) (Kd.R_far (p := ⟨gb396, 3, none⟩) (Kd.R_far (p := ⟨gb396, 2, none⟩) (Kd.R_far (p := ⟨gb396, 1, none⟩) (Kd.R_far (p := ⟨gb396, 0, none⟩) (Kd.R_types HO371.out BK396.out (by decide)) (fun _ hk => hk.2) (.int .i64 t372)) (fun _ hk => hk.2) (.int .i64 (wrap64 (1 + t375)))) (fun _ hk => hk.2) (.int .i64 t381)) (fun _ hk => hk.2) (.int .i64 (wrap64 (1 + t384)))) (fun _ hk => hk.2) (.int .i64 (wrap64 (1 + t387)))) (fun _ hk => hk.2) (.int .i64 t393)) (fun _ h_ => h_.1))) (by decide)) hk (fun _ h => h.2)) (fun _ h => h.1)) (Kd.R_mono (Kd.R_keep (IsS99.apart (show IsS99 w0 _ g s0_0 t394 t395 from zi2 HI0) (by (with_reducible repeat (first | apply zRa | apply zRn | apply zRd)); exact (Kd.R_mono (Kd.R_far (p := ⟨gb396, 5, none⟩) (Kd.R_far (p := ⟨gb396, 4, none⟩) (Kd.R_far (p := ⟨gb396, 3, none⟩) (Kd.R_far (p := ⟨gb396, 2, none⟩) (Kd.R_far (p := ⟨gb396, 1, none⟩) (Kd.R_far (p := ⟨gb396, 0, none⟩) (Kd.R_types HO380.out BK396.out (by decide)) (fun _ hk => hk.2) (.int .i64 t372)) (fun _ hk => hk.2) (.int .i64 (wrap64 (1 + t375)))) (fun _ hk => hk.2) (.int .i64 t381)) (fun _ hk => hk.2) (.int .i64 (wrap64 (1 + t384)))) (fun _ hk => hk.2) (.int .i64 (wrap64 (1 + t387)))) (fun _ hk => hk.2) (.int .i64 t393)) (fun _ h_ => h_.1))) (by decide)) hk (fun _ h => h.2)) (fun _ h => h.1)) (Kd.R_mono (Kd.R_keep (IsS99.apart (show IsS99 w0 _ g s0_0 t394 t395 from zi2 HI0) (by (with_reducible repeat (first | apply zRa | apply zRn | apply zRd)); exact (Kd.R_mono (Kd.R_far (p := ⟨gb396, 5, none⟩) (Kd.R_far (p := ⟨gb396, 4, none⟩) (Kd.R_far (p := ⟨gb396, 3, none⟩) (Kd.R_far (p := ⟨gb396, 2, none⟩) (Kd.R_far (p := ⟨gb396, 1, none⟩) (Kd.R_far (p := ⟨gb396, 0, none⟩) (Kd.R_types HO392.out BK396.out (by decide)) (fun _ hk => hk.2) (.int .i64 t372)) (fun _ hk => hk.2) (.int .i64 (wrap64 (1 + t375)))) (fun _ hk => hk.2) (.int .i64 t381)) (fun _ hk => hk.2) (.int .i64 (wrap64 (1 + t384)))) (fun _ hk => hk.2) (.int .i64 (wrap64 (1 + t387)))) (fun _ hk => hk.2) (.int .i64 t393)) (fun _ h_ => h_.1))) (by decide)) hk (fun _ h => h.2)) (fun _ h => h.1)) (KeepBut.blk hk (g' := gb396) (o := .cells #[.int .i64 t372, .int .i64 (wrap64 (1 + t375)), .int .i64 t381, .int .i64 (wrap64 (1 + t384)), .int .i64 (wrap64 (1 + t387)), .int .i64 t393] 28 (0, 0)) (by (with_reducible repeat (first | apply zNn | apply zNd | apply zNa)); exact blk_put (blk_put (blk_put (blk_put (blk_put (blk_put (BK396.out) 0 _ rfl) 1 _ rfl) 2 _ rfl) 3 _ rfl) 4 _ rfl) 5 _ rfl) NB396_0.out (by simp)) (KeepBut.trans zk2 hk (.inl rfl)) (hb) (hi) ?_; clear BK368 HO371 HO380 HO392 BK396 HK HB HI0; intro BK368 HO371 HO380 HO392 BK396 HK HB HI0; (try clear hb); (try clear hb2); (try clear hk); (try clear hi)) | ((with_reducible refine gate_dst (N := 28) rfl ?_); refine Kd.R_lit (Kd.int .i64) _ 3 ?hg (N := 28) ?hd (xs := ([0, 3, 10] : List Int)) (inner := [.int .i64 0, .int .i64 3, .int .i64 10]) (ok := fun _ => True) (okp := fun _ => True) ?hr ?hp (fun _ hk => hk) trivial (Below.refl _ _) (Nat.le_refl _) (by simp) ?_; (case hd | hg => rfl); (case hr => exact zh); (case hp => exact (Reps.one (show Kd.M (Kd.int .i64) _ _ _ 0 [.int .i64 0] from rfl) (Reps.one (show Kd.M (Kd.int .i64) _ _ _ 3 [.int .i64 3] from rfl) (Reps.one (show Kd.M (Kd.int .i64) _ _ _ 10 [.int .i64 10] from rfl) (Reps.none _ _))))); intro v9100 w730 ho731 hb hg_ hnew_; clear hg_ hnew_; (first | rw [← Ny9000.out] at ho731 | simp only [Int.reduceToNat, ← Ny9000.out] at ho731); refine zS9 (Kd.R_elder' (zr HO371) (Kd.R_base ho731) hb) (Kd.R_elder' (zr HO380) (Kd.R_base ho731) hb) (Kd.R_elder' (zr HO392) (Kd.R_base ho731) hb) (Kd.R_lower (Kd.R_new' (Kd.R_new' (Kd.R_new' ho731 (Kd.R_lt (zr HO371))) (Kd.R_lt (zr HO380))) (Kd.R_lt (zr HO392))) (keep_size (w := w) (g := g) (row := none) zk2)) (IsS99.below (zi2 HI0) hb) (zNb (g := gb368) (o := .cells #[.int .i64 0, .int .i64 0, .int .i64 0, .int .i64 0, .int .i64 0, .int .i64 0] 28 (0, 0)) (zn BK368) hb) (zNb (g := gb396) (o := .cells #[.int .i64 t372, .int .i64 (wrap64 (1 + t375)), .int .i64 t381, .int .i64 (wrap64 (1 + t384)), .int .i64 (wrap64 (1 + t387)), .int .i64 t393] 28 (0, 0)) (zn BK396) hb) (KeepBut.trans zk2 (KeepBut.of_below hb g none) (.inl rfl)) (below_step zb8 hb) ?_; clear HO371 HO380 HO392 HI0 BK368 BK396 HK HB; intro HO371 HO380 HO392 HO9101 HI0 BK368 BK396 HK HB; clear hb ho731; obtain ⟨Ao732, co733, eo734⟩ := Kd.R_slice HO9101.out; subst eo734) | ((with_reducible refine gate_callee (f := 50) rfl ?_); refine goesL_ (some 29) rfl rfl Try.func50 ze rfl #[.pointer (some ⟨g, 0, none⟩), .slice Ao732 y9000.length co733] rfl zg ?_; (with_reducible refine (spec_l1PickInt.calls g s0_0 t398 t399 _ _ y9000 t9000 t9001 t9002 w0 _ ?side1 ?side2 ?side3 ?side4 ?side5 A9000.out).mono ?_); (case side1 => exact zi2 HI0); (case side2 => exact zb8); (case side3 => exact zc (Kd.R_reads' HO9101.out).2.2); (case side4 => exact (Kd.R_reads' HO9101.out).2.1); (case side5 => exact far_slice (IsS99.own_ne HI0.out HO9101.out (by decide))); rintro e w735 ⟨rfl, hi, hb, hk⟩; refine ⟨_, rfl, ?_⟩; refine zS9 (KeepBut.blk hk (g' := gb368) (o := .cells #[.int .i64 0, .int .i64 0, .int .i64 0, .int .i64 0, .int .i64 0, .int .i64 0] 28 (0, 0)) (zn BK368) NB368_0.out (by simp)) (Kd.R_mono (Kd.R_keep (IsS99.apart (show IsS99 w0 _ g s0_0 t398 t399 from zi2 HI0) (zr HO371) (by decide)) hk (fun _ h => h.2)) (fun _ h => h.1)) (Kd.R_mono (Kd.R_keep (IsS99.apart (show IsS99 w0 _ g s0_0 t398 t399 from zi2 HI0) (zr HO380) (by decide)) hk (fun _ h => h.2)) (fun _ h => h.1)) (Kd.R_mono (Kd.R_keep (IsS99.apart (show IsS99 w0 _ g s0_0 t398 t399 from zi2 HI0) (zr HO392) (by decide)) hk (fun _ h => h.2)) (fun _ h => h.1)) (KeepBut.blk hk (g' := gb396) (o := .cells #[.int .i64 t372, .int .i64 (wrap64 (1 + t375)), .int .i64 t381, .int .i64 (wrap64 (1 + t384)), .int .i64 (wrap64 (1 + t387)), .int .i64 t393] 28 (0, 0)) (zn BK396) NB396_0.out (by simp)) (Kd.R_mono (Kd.R_keep (IsS99.apart (show IsS99 w0 _ g s0_0 t398 t399 from zi2 HI0) (zr HO9101) (by decide)) hk (fun _ h => h.2)) (fun _ h => h.1)) (KeepBut.trans zk2 hk (.inl rfl)) (hb) (hi) ?_; clear BK368 HO371 HO380 HO392 BK396 HO9101 HK HB HI0; intro BK368 HO371 HO380 HO392 BK396 HO9101 HK HB HI0; (try clear hb); (try clear hb2); (try clear hk); (try clear hi); obtain ⟨hcz736_0, hcz736_1, hcz736_2, hcz736_3, hcz736_4, hcz736_5, hfz737_0, hfz737_1, hfz737_2, hfz737_3, hfz737_4, hfz737_5⟩ := zc6 BK396.out; have hnb738 := NB368_0.out; have hnc739 := NB0_368.out; obtain ⟨hcz740_0, hcz740_1, hcz740_2, hcz740_3, hcz740_4, hcz740_5, hfz741_0, hfz741_1, hfz741_2, hfz741_3, hfz741_4, hfz741_5⟩ := zc6 BK368.out) | ((with_reducible refine gate_dst (N := 34) rfl ?_); refine Kd.R_lit (Kd.int .i64) _ 3 ?hg (N := 34) ?hd (xs := ([0, 8, 9] : List Int)) (inner := [.int .i64 0, .int .i64 8, .int .i64 9]) (ok := fun _ => True) (okp := fun _ => True) ?hr ?hp (fun _ hk => hk) trivial (Below.refl _ _) (Nat.le_refl _) (by simp) ?_; (case hd | hg => rfl); (case hr => exact zh); (case hp => exact (Reps.one (show Kd.M (Kd.int .i64) _ _ _ 0 [.int .i64 0] from rfl) (Reps.one (show Kd.M (Kd.int .i64) _ _ _ 8 [.int .i64 8] from rfl) (Reps.one (show Kd.M (Kd.int .i64) _ _ _ 9 [.int .i64 9] from rfl) (Reps.none _ _))))); intro v9100 w730 ho731 hb hg_ hnew_; clear hg_ hnew_; (first | rw [← Ny9000.out] at ho731 | simp only [Int.reduceToNat, ← Ny9000.out] at ho731); refine zS9 (Kd.R_elder' (zr HO371) (Kd.R_base ho731) hb) (Kd.R_elder' (zr HO380) (Kd.R_base ho731) hb) (Kd.R_elder' (zr HO392) (Kd.R_base ho731) hb) (Kd.R_lower (Kd.R_new' (Kd.R_new' (Kd.R_new' ho731 (Kd.R_lt (zr HO371))) (Kd.R_lt (zr HO380))) (Kd.R_lt (zr HO392))) (keep_size (w := w) (g := g) (row := none) zk2)) (IsS99.below (zi2 HI0) hb) (zNb (g := gb368) (o := .cells #[.int .i64 0, .int .i64 0, .int .i64 0, .int .i64 0, .int .i64 0, .int .i64 0] 28 (0, 0)) (zn BK368) hb) (zNb (g := gb396) (o := .cells #[.int .i64 t372, .int .i64 (wrap64 (1 + t375)), .int .i64 t381, .int .i64 (wrap64 (1 + t384)), .int .i64 (wrap64 (1 + t387)), .int .i64 t393] 28 (0, 0)) (zn BK396) hb) (KeepBut.trans zk2 (KeepBut.of_below hb g none) (.inl rfl)) (below_step zb8 hb) ?_; clear HO371 HO380 HO392 HI0 BK368 BK396 HK HB; intro HO371 HO380 HO392 HO9101 HI0 BK368 BK396 HK HB; clear hb ho731; obtain ⟨Ao732, co733, eo734⟩ := Kd.R_slice HO9101.out; subst eo734) | ((with_reducible refine gate_callee (f := 50) rfl ?_); refine goesL_ (some 35) rfl rfl Try.func50 ze rfl #[.pointer (some ⟨g, 0, none⟩), .slice Ao732 y9000.length co733] rfl zg ?_; (with_reducible refine (spec_l1PickInt.calls g s0_0 t398 t399 _ _ y9000 t9000 t9001 t9002 w0 _ ?side1 ?side2 ?side3 ?side4 ?side5 A9000.out).mono ?_); (case side1 => exact zi2 HI0); (case side2 => exact zb8); (case side3 => exact zc (Kd.R_reads' HO9101.out).2.2); (case side4 => exact (Kd.R_reads' HO9101.out).2.1); (case side5 => exact far_slice (IsS99.own_ne HI0.out HO9101.out (by decide))); rintro e w735 ⟨rfl, hi, hb, hk⟩; refine ⟨_, rfl, ?_⟩; refine zS9 (KeepBut.blk hk (g' := gb368) (o := .cells #[.int .i64 0, .int .i64 0, .int .i64 0, .int .i64 0, .int .i64 0, .int .i64 0] 28 (0, 0)) (zn BK368) NB368_0.out (by simp)) (Kd.R_mono (Kd.R_keep (IsS99.apart (show IsS99 w0 _ g s0_0 t398 t399 from zi2 HI0) (zr HO371) (by decide)) hk (fun _ h => h.2)) (fun _ h => h.1)) (Kd.R_mono (Kd.R_keep (IsS99.apart (show IsS99 w0 _ g s0_0 t398 t399 from zi2 HI0) (zr HO380) (by decide)) hk (fun _ h => h.2)) (fun _ h => h.1)) (Kd.R_mono (Kd.R_keep (IsS99.apart (show IsS99 w0 _ g s0_0 t398 t399 from zi2 HI0) (zr HO392) (by decide)) hk (fun _ h => h.2)) (fun _ h => h.1)) (KeepBut.blk hk (g' := gb396) (o := .cells #[.int .i64 t372, .int .i64 (wrap64 (1 + t375)), .int .i64 t381, .int .i64 (wrap64 (1 + t384)), .int .i64 (wrap64 (1 + t387)), .int .i64 t393] 28 (0, 0)) (zn BK396) NB396_0.out (by simp)) (Kd.R_mono (Kd.R_keep (IsS99.apart (show IsS99 w0 _ g s0_0 t398 t399 from zi2 HI0) (zr HO9101) (by decide)) hk (fun _ h => h.2)) (fun _ h => h.1)) (KeepBut.trans zk2 hk (.inl rfl)) (hb) (hi) ?_; clear BK368 HO371 HO380 HO392 BK396 HO9101 HK HB HI0; intro BK368 HO371 HO380 HO392 BK396 HO9101 HK HB HI0; (try clear hb); (try clear hb2); (try clear hk); (try clear hi); obtain ⟨hcz736_0, hcz736_1, hcz736_2, hcz736_3, hcz736_4, hcz736_5, hfz737_0, hfz737_1, hfz737_2, hfz737_3, hfz737_4, hfz737_5⟩ := zc6 BK396.out; have hnb738 := NB368_0.out; have hnc739 := NB0_368.out; obtain ⟨hcz740_0, hcz740_1, hcz740_2, hcz740_3, hcz740_4, hcz740_5, hfz741_0, hfz741_1, hfz741_2, hfz741_3, hfz741_4, hfz741_5⟩ := zc6 BK368.out) | ((with_reducible refine gate_dst (N := 40) rfl ?_); refine Kd.R_lit (Kd.int .i64) _ 3 ?hg (N := 40) ?hd (xs := ([0, 65536] : List Int)) (inner := [.int .i64 0, .int .i64 65536]) (ok := fun _ => True) (okp := fun _ => True) ?hr ?hp (fun _ hk => hk) trivial (Below.refl _ _) (Nat.le_refl _) (by simp) ?_; (case hd | hg => rfl); (case hr => exact zh); (case hp => exact (Reps.one (show Kd.M (Kd.int .i64) _ _ _ 0 [.int .i64 0] from rfl) (Reps.one (show Kd.M (Kd.int .i64) _ _ _ 65536 [.int .i64 65536] from rfl) (Reps.none _ _)))); intro v9100 w730 ho731 hb hg_ hnew_; clear hg_ hnew_; (first | rw [← Ny9000.out] at ho731 | simp only [Int.reduceToNat, ← Ny9000.out] at ho731); refine zS9 (Kd.R_elder' (zr HO371) (Kd.R_base ho731) hb) (Kd.R_elder' (zr HO380) (Kd.R_base ho731) hb) (Kd.R_elder' (zr HO392) (Kd.R_base ho731) hb) (Kd.R_lower (Kd.R_new' (Kd.R_new' (Kd.R_new' ho731 (Kd.R_lt (zr HO371))) (Kd.R_lt (zr HO380))) (Kd.R_lt (zr HO392))) (keep_size (w := w) (g := g) (row := none) zk2)) (IsS99.below (zi2 HI0) hb) (zNb (g := gb368) (o := .cells #[.int .i64 0, .int .i64 0, .int .i64 0, .int .i64 0, .int .i64 0, .int .i64 0] 28 (0, 0)) (zn BK368) hb) (zNb (g := gb396) (o := .cells #[.int .i64 t372, .int .i64 (wrap64 (1 + t375)), .int .i64 t381, .int .i64 (wrap64 (1 + t384)), .int .i64 (wrap64 (1 + t387)), .int .i64 t393] 28 (0, 0)) (zn BK396) hb) (KeepBut.trans zk2 (KeepBut.of_below hb g none) (.inl rfl)) (below_step zb8 hb) ?_; clear HO371 HO380 HO392 HI0 BK368 BK396 HK HB; intro HO371 HO380 HO392 HO9101 HI0 BK368 BK396 HK HB; clear hb ho731; obtain ⟨Ao732, co733, eo734⟩ := Kd.R_slice HO9101.out; subst eo734) | ((with_reducible refine gate_callee (f := 50) rfl ?_); refine goesL_ (some 41) rfl rfl Try.func50 ze rfl #[.pointer (some ⟨g, 0, none⟩), .slice Ao732 y9000.length co733] rfl zg ?_; (with_reducible refine (spec_l1PickInt.calls g s0_0 t398 t399 _ _ y9000 t9000 t9001 t9002 w0 _ ?side1 ?side2 ?side3 ?side4 ?side5 A9000.out).mono ?_); (case side1 => exact zi2 HI0); (case side2 => exact zb8); (case side3 => exact zc (Kd.R_reads' HO9101.out).2.2); (case side4 => exact (Kd.R_reads' HO9101.out).2.1); (case side5 => exact far_slice (IsS99.own_ne HI0.out HO9101.out (by decide))); rintro e w735 ⟨rfl, hi, hb, hk⟩; refine ⟨_, rfl, ?_⟩; refine zS9 (KeepBut.blk hk (g' := gb368) (o := .cells #[.int .i64 0, .int .i64 0, .int .i64 0, .int .i64 0, .int .i64 0, .int .i64 0] 28 (0, 0)) (zn BK368) NB368_0.out (by simp)) (Kd.R_mono (Kd.R_keep (IsS99.apart (show IsS99 w0 _ g s0_0 t398 t399 from zi2 HI0) (zr HO371) (by decide)) hk (fun _ h => h.2)) (fun _ h => h.1)) (Kd.R_mono (Kd.R_keep (IsS99.apart (show IsS99 w0 _ g s0_0 t398 t399 from zi2 HI0) (zr HO380) (by decide)) hk (fun _ h => h.2)) (fun _ h => h.1)) (Kd.R_mono (Kd.R_keep (IsS99.apart (show IsS99 w0 _ g s0_0 t398 t399 from zi2 HI0) (zr HO392) (by decide)) hk (fun _ h => h.2)) (fun _ h => h.1)) (KeepBut.blk hk (g' := gb396) (o := .cells #[.int .i64 t372, .int .i64 (wrap64 (1 + t375)), .int .i64 t381, .int .i64 (wrap64 (1 + t384)), .int .i64 (wrap64 (1 + t387)), .int .i64 t393] 28 (0, 0)) (zn BK396) NB396_0.out (by simp)) (Kd.R_mono (Kd.R_keep (IsS99.apart (show IsS99 w0 _ g s0_0 t398 t399 from zi2 HI0) (zr HO9101) (by decide)) hk (fun _ h => h.2)) (fun _ h => h.1)) (KeepBut.trans zk2 hk (.inl rfl)) (hb) (hi) ?_; clear BK368 HO371 HO380 HO392 BK396 HO9101 HK HB HI0; intro BK368 HO371 HO380 HO392 BK396 HO9101 HK HB HI0; (try clear hb); (try clear hb2); (try clear hk); (try clear hi); obtain ⟨hcz736_0, hcz736_1, hcz736_2, hcz736_3, hcz736_4, hcz736_5, hfz737_0, hfz737_1, hfz737_2, hfz737_3, hfz737_4, hfz737_5⟩ := zc6 BK396.out; have hnb738 := NB368_0.out; have hnc739 := NB0_368.out; obtain ⟨hcz740_0, hcz740_1, hcz740_2, hcz740_3, hcz740_4, hcz740_5, hfz741_0, hfz741_1, hfz741_2, hfz741_3, hfz741_4, hfz741_5⟩ := zc6 BK368.out) | ((with_reducible refine gate_dst (N := 46) rfl ?_); refine Kd.R_lit (Kd.int .i64) _ 3 ?hg (N := 46) ?hd (xs := ([0, 8, 9] : List Int)) (inner := [.int .i64 0, .int .i64 8, .int .i64 9]) (ok := fun _ => True) (okp := fun _ => True) ?hr ?hp (fun _ hk => hk) trivial (Below.refl _ _) (Nat.le_refl _) (by simp) ?_; (case hd | hg => rfl); (case hr => exact zh); (case hp => exact (Reps.one (show Kd.M (Kd.int .i64) _ _ _ 0 [.int .i64 0] from rfl) (Reps.one (show Kd.M (Kd.int .i64) _ _ _ 8 [.int .i64 8] from rfl) (Reps.one (show Kd.M (Kd.int .i64) _ _ _ 9 [.int .i64 9] from rfl) (Reps.none _ _))))); intro v9100 w730 ho731 hb hg_ hnew_; clear hg_ hnew_; (first | rw [← Ny9000.out] at ho731 | simp only [Int.reduceToNat, ← Ny9000.out] at ho731); refine zS9 (Kd.R_elder' (zr HO371) (Kd.R_base ho731) hb) (Kd.R_elder' (zr HO380) (Kd.R_base ho731) hb) (Kd.R_elder' (zr HO392) (Kd.R_base ho731) hb) (Kd.R_lower (Kd.R_new' (Kd.R_new' (Kd.R_new' ho731 (Kd.R_lt (zr HO371))) (Kd.R_lt (zr HO380))) (Kd.R_lt (zr HO392))) (keep_size (w := w) (g := g) (row := none) zk2)) (IsS99.below (zi2 HI0) hb) (zNb (g := gb368) (o := .cells #[.int .i64 0, .int .i64 0, .int .i64 0, .int .i64 0, .int .i64 0, .int .i64 0] 28 (0, 0)) (zn BK368) hb) (zNb (g := gb396) (o := .cells #[.int .i64 t372, .int .i64 (wrap64 (1 + t375)), .int .i64 t381, .int .i64 (wrap64 (1 + t384)), .int .i64 (wrap64 (1 + t387)), .int .i64 t393] 28 (0, 0)) (zn BK396) hb) (KeepBut.trans zk2 (KeepBut.of_below hb g none) (.inl rfl)) (below_step zb8 hb) ?_; clear HO371 HO380 HO392 HI0 BK368 BK396 HK HB; intro HO371 HO380 HO392 HO9101 HI0 BK368 BK396 HK HB; clear hb ho731; obtain ⟨Ao732, co733, eo734⟩ := Kd.R_slice HO9101.out; subst eo734) | ((with_reducible refine gate_callee (f := 50) rfl ?_); refine goesL_ (some 47) rfl rfl Try.func50 ze rfl #[.pointer (some ⟨g, 0, none⟩), .slice Ao732 y9000.length co733] rfl zg ?_; (with_reducible refine (spec_l1PickInt.calls g s0_0 t398 t399 _ _ y9000 t9000 t9001 t9002 w0 _ ?side1 ?side2 ?side3 ?side4 ?side5 A9000.out).mono ?_); (case side1 => exact zi2 HI0); (case side2 => exact zb8); (case side3 => exact zc (Kd.R_reads' HO9101.out).2.2); (case side4 => exact (Kd.R_reads' HO9101.out).2.1); (case side5 => exact far_slice (IsS99.own_ne HI0.out HO9101.out (by decide))); rintro e w735 ⟨rfl, hi, hb, hk⟩; refine ⟨_, rfl, ?_⟩; refine zS9 (KeepBut.blk hk (g' := gb368) (o := .cells #[.int .i64 0, .int .i64 0, .int .i64 0, .int .i64 0, .int .i64 0, .int .i64 0] 28 (0, 0)) (zn BK368) NB368_0.out (by simp)) (Kd.R_mono (Kd.R_keep (IsS99.apart (show IsS99 w0 _ g s0_0 t398 t399 from zi2 HI0) (zr HO371) (by decide)) hk (fun _ h => h.2)) (fun _ h => h.1)) (Kd.R_mono (Kd.R_keep (IsS99.apart (show IsS99 w0 _ g s0_0 t398 t399 from zi2 HI0) (zr HO380) (by decide)) hk (fun _ h => h.2)) (fun _ h => h.1)) (Kd.R_mono (Kd.R_keep (IsS99.apart (show IsS99 w0 _ g s0_0 t398 t399 from zi2 HI0) (zr HO392) (by decide)) hk (fun _ h => h.2)) (fun _ h => h.1)) (KeepBut.blk hk (g' := gb396) (o := .cells #[.int .i64 t372, .int .i64 (wrap64 (1 + t375)), .int .i64 t381, .int .i64 (wrap64 (1 + t384)), .int .i64 (wrap64 (1 + t387)), .int .i64 t393] 28 (0, 0)) (zn BK396) NB396_0.out (by simp)) (Kd.R_mono (Kd.R_keep (IsS99.apart (show IsS99 w0 _ g s0_0 t398 t399 from zi2 HI0) (zr HO9101) (by decide)) hk (fun _ h => h.2)) (fun _ h => h.1)) (KeepBut.trans zk2 hk (.inl rfl)) (hb) (hi) ?_; clear BK368 HO371 HO380 HO392 BK396 HO9101 HK HB HI0; intro BK368 HO371 HO380 HO392 BK396 HO9101 HK HB HI0; (try clear hb); (try clear hb2); (try clear hk); (try clear hi); obtain ⟨hcz736_0, hcz736_1, hcz736_2, hcz736_3, hcz736_4, hcz736_5, hfz737_0, hfz737_1, hfz737_2, hfz737_3, hfz737_4, hfz737_5⟩ := zc6 BK396.out; have hnb738 := NB368_0.out; have hnc739 := NB0_368.out; obtain ⟨hcz740_0, hcz740_1, hcz740_2, hcz740_3, hcz740_4, hcz740_5, hfz741_0, hfz741_1, hfz741_2, hfz741_3, hfz741_4, hfz741_5⟩ := zc6 BK368.out) | ((with_reducible refine gate_dst (N := 52) rfl ?_); refine Kd.R_lit (Kd.int .i64) _ 3 ?hg (N := 52) ?hd (xs := ([0, 10001] : List Int)) (inner := [.int .i64 0, .int .i64 10001]) (ok := fun _ => True) (okp := fun _ => True) ?hr ?hp (fun _ hk => hk) trivial (Below.refl _ _) (Nat.le_refl _) (by simp) ?_; (case hd | hg => rfl); (case hr => exact zh); (case hp => exact (Reps.one (show Kd.M (Kd.int .i64) _ _ _ 0 [.int .i64 0] from rfl) (Reps.one (show Kd.M (Kd.int .i64) _ _ _ 10001 [.int .i64 10001] from rfl) (Reps.none _ _)))); intro v9100 w730 ho731 hb hg_ hnew_; clear hg_ hnew_; (first | rw [← Ny9000.out] at ho731 | simp only [Int.reduceToNat, ← Ny9000.out] at ho731); refine zS9 (Kd.R_elder' (zr HO371) (Kd.R_base ho731) hb) (Kd.R_elder' (zr HO380) (Kd.R_base ho731) hb) (Kd.R_elder' (zr HO392) (Kd.R_base ho731) hb) (Kd.R_lower (Kd.R_new' (Kd.R_new' (Kd.R_new' ho731 (Kd.R_lt (zr HO371))) (Kd.R_lt (zr HO380))) (Kd.R_lt (zr HO392))) (keep_size (w := w) (g := g) (row := none) zk2)) (IsS99.below (zi2 HI0) hb) (zNb (g := gb368) (o := .cells #[.int .i64 0, .int .i64 0, .int .i64 0, .int .i64 0, .int .i64 0, .int .i64 0] 28 (0, 0)) (zn BK368) hb) (zNb (g := gb396) (o := .cells #[.int .i64 t372, .int .i64 (wrap64 (1 + t375)), .int .i64 t381, .int .i64 (wrap64 (1 + t384)), .int .i64 (wrap64 (1 + t387)), .int .i64 t393] 28 (0, 0)) (zn BK396) hb) (KeepBut.trans zk2 (KeepBut.of_below hb g none) (.inl rfl)) (below_step zb8 hb) ?_; clear HO371 HO380 HO392 HI0 BK368 BK396 HK HB; intro HO371 HO380 HO392 HO9101 HI0 BK368 BK396 HK HB; clear hb ho731; obtain ⟨Ao732, co733, eo734⟩ := Kd.R_slice HO9101.out; subst eo734) | ((with_reducible refine gate_callee (f := 50) rfl ?_); refine goesL_ (some 53) rfl rfl Try.func50 ze rfl #[.pointer (some ⟨g, 0, none⟩), .slice Ao732 y9000.length co733] rfl zg ?_; (with_reducible refine (spec_l1PickInt.calls g s0_0 t398 t399 _ _ y9000 t9000 t9001 t9002 w0 _ ?side1 ?side2 ?side3 ?side4 ?side5 A9000.out).mono ?_); (case side1 => exact zi2 HI0); (case side2 => exact zb8); (case side3 => exact zc (Kd.R_reads' HO9101.out).2.2); (case side4 => exact (Kd.R_reads' HO9101.out).2.1); (case side5 => exact far_slice (IsS99.own_ne HI0.out HO9101.out (by decide))); rintro e w735 ⟨rfl, hi, hb, hk⟩; refine ⟨_, rfl, ?_⟩; refine zS9 (KeepBut.blk hk (g' := gb368) (o := .cells #[.int .i64 0, .int .i64 0, .int .i64 0, .int .i64 0, .int .i64 0, .int .i64 0] 28 (0, 0)) (zn BK368) NB368_0.out (by simp)) (Kd.R_mono (Kd.R_keep (IsS99.apart (show IsS99 w0 _ g s0_0 t398 t399 from zi2 HI0) (zr HO371) (by decide)) hk (fun _ h => h.2)) (fun _ h => h.1)) (Kd.R_mono (Kd.R_keep (IsS99.apart (show IsS99 w0 _ g s0_0 t398 t399 from zi2 HI0) (zr HO380) (by decide)) hk (fun _ h => h.2)) (fun _ h => h.1)) (Kd.R_mono (Kd.R_keep (IsS99.apart (show IsS99 w0 _ g s0_0 t398 t399 from zi2 HI0) (zr HO392) (by decide)) hk (fun _ h => h.2)) (fun _ h => h.1)) (KeepBut.blk hk (g' := gb396) (o := .cells #[.int .i64 t372, .int .i64 (wrap64 (1 + t375)), .int .i64 t381, .int .i64 (wrap64 (1 + t384)), .int .i64 (wrap64 (1 + t387)), .int .i64 t393] 28 (0, 0)) (zn BK396) NB396_0.out (by simp)) (Kd.R_mono (Kd.R_keep (IsS99.apart (show IsS99 w0 _ g s0_0 t398 t399 from zi2 HI0) (zr HO9101) (by decide)) hk (fun _ h => h.2)) (fun _ h => h.1)) (KeepBut.trans zk2 hk (.inl rfl)) (hb) (hi) ?_; clear BK368 HO371 HO380 HO392 BK396 HO9101 HK HB HI0; intro BK368 HO371 HO380 HO392 BK396 HO9101 HK HB HI0; (try clear hb); (try clear hb2); (try clear hk); (try clear hi); obtain ⟨hcz736_0, hcz736_1, hcz736_2, hcz736_3, hcz736_4, hcz736_5, hfz737_0, hfz737_1, hfz737_2, hfz737_3, hfz737_4, hfz737_5⟩ := zc6 BK396.out; have hnb738 := NB368_0.out; have hnc739 := NB0_368.out; obtain ⟨hcz740_0, hcz740_1, hcz740_2, hcz740_3, hcz740_4, hcz740_5, hfz741_0, hfz741_1, hfz741_2, hfz741_3, hfz741_4, hfz741_5⟩ := zc6 BK368.out) | ((with_reducible refine gate_dst (N := 58) rfl ?_); refine Kd.R_lit (Kd.int .i64) _ 3 ?hg (N := 58) ?hd (xs := ([0, 65] : List Int)) (inner := [.int .i64 0, .int .i64 65]) (ok := fun _ => True) (okp := fun _ => True) ?hr ?hp (fun _ hk => hk) trivial (Below.refl _ _) (Nat.le_refl _) (by simp) ?_; (case hd | hg => rfl); (case hr => exact zh); (case hp => exact (Reps.one (show Kd.M (Kd.int .i64) _ _ _ 0 [.int .i64 0] from rfl) (Reps.one (show Kd.M (Kd.int .i64) _ _ _ 65 [.int .i64 65] from rfl) (Reps.none _ _)))); intro v9100 w730 ho731 hb hg_ hnew_; clear hg_ hnew_; (first | rw [← Ny9000.out] at ho731 | simp only [Int.reduceToNat, ← Ny9000.out] at ho731); refine zS9 (Kd.R_elder' (zr HO371) (Kd.R_base ho731) hb) (Kd.R_elder' (zr HO380) (Kd.R_base ho731) hb) (Kd.R_elder' (zr HO392) (Kd.R_base ho731) hb) (Kd.R_lower (Kd.R_new' (Kd.R_new' (Kd.R_new' ho731 (Kd.R_lt (zr HO371))) (Kd.R_lt (zr HO380))) (Kd.R_lt (zr HO392))) (keep_size (w := w) (g := g) (row := none) zk2)) (IsS99.below (zi2 HI0) hb) (zNb (g := gb368) (o := .cells #[.int .i64 0, .int .i64 0, .int .i64 0, .int .i64 0, .int .i64 0, .int .i64 0] 28 (0, 0)) (zn BK368) hb) (zNb (g := gb396) (o := .cells #[.int .i64 t372, .int .i64 (wrap64 (1 + t375)), .int .i64 t381, .int .i64 (wrap64 (1 + t384)), .int .i64 (wrap64 (1 + t387)), .int .i64 t393] 28 (0, 0)) (zn BK396) hb) (KeepBut.trans zk2 (KeepBut.of_below hb g none) (.inl rfl)) (below_step zb8 hb) ?_; clear HO371 HO380 HO392 HI0 BK368 BK396 HK HB; intro HO371 HO380 HO392 HO9101 HI0 BK368 BK396 HK HB; clear hb ho731; obtain ⟨Ao732, co733, eo734⟩ := Kd.R_slice HO9101.out; subst eo734) | ((with_reducible refine gate_callee (f := 50) rfl ?_); refine goesL_ (some 59) rfl rfl Try.func50 ze rfl #[.pointer (some ⟨g, 0, none⟩), .slice Ao732 y9000.length co733] rfl zg ?_; (with_reducible refine (spec_l1PickInt.calls g s0_0 t398 t399 _ _ y9000 t9000 t9001 t9002 w0 _ ?side1 ?side2 ?side3 ?side4 ?side5 A9000.out).mono ?_); (case side1 => exact zi2 HI0); (case side2 => exact zb8); (case side3 => exact zc (Kd.R_reads' HO9101.out).2.2); (case side4 => exact (Kd.R_reads' HO9101.out).2.1); (case side5 => exact far_slice (IsS99.own_ne HI0.out HO9101.out (by decide))); rintro e w735 ⟨rfl, hi, hb, hk⟩; refine ⟨_, rfl, ?_⟩; refine zS9 (KeepBut.blk hk (g' := gb368) (o := .cells #[.int .i64 0, .int .i64 0, .int .i64 0, .int .i64 0, .int .i64 0, .int .i64 0] 28 (0, 0)) (zn BK368) NB368_0.out (by simp)) (Kd.R_mono (Kd.R_keep (IsS99.apart (show IsS99 w0 _ g s0_0 t398 t399 from zi2 HI0) (zr HO371) (by decide)) hk (fun _ h => h.2)) (fun _ h => h.1)) (Kd.R_mono (Kd.R_keep (IsS99.apart (show IsS99 w0 _ g s0_0 t398 t399 from zi2 HI0) (zr HO380) (by decide)) hk (fun _ h => h.2)) (fun _ h => h.1)) (Kd.R_mono (Kd.R_keep (IsS99.apart (show IsS99 w0 _ g s0_0 t398 t399 from zi2 HI0) (zr HO392) (by decide)) hk (fun _ h => h.2)) (fun _ h => h.1)) (KeepBut.blk hk (g' := gb396) (o := .cells #[.int .i64 t372, .int .i64 (wrap64 (1 + t375)), .int .i64 t381, .int .i64 (wrap64 (1 + t384)), .int .i64 (wrap64 (1 + t387)), .int .i64 t393] 28 (0, 0)) (zn BK396) NB396_0.out (by simp)) (Kd.R_mono (Kd.R_keep (IsS99.apart (show IsS99 w0 _ g s0_0 t398 t399 from zi2 HI0) (zr HO9101) (by decide)) hk (fun _ h => h.2)) (fun _ h => h.1)) (KeepBut.trans zk2 hk (.inl rfl)) (hb) (hi) ?_; clear BK368 HO371 HO380 HO392 BK396 HO9101 HK HB HI0; intro BK368 HO371 HO380 HO392 BK396 HO9101 HK HB HI0; (try clear hb); (try clear hb2); (try clear hk); (try clear hi); obtain ⟨hcz736_0, hcz736_1, hcz736_2, hcz736_3, hcz736_4, hcz736_5, hfz737_0, hfz737_1, hfz737_2, hfz737_3, hfz737_4, hfz737_5⟩ := zc6 BK396.out; have hnb738 := NB368_0.out; have hnc739 := NB0_368.out; obtain ⟨hcz740_0, hcz740_1, hcz740_2, hcz740_3, hcz740_4, hcz740_5, hfz741_0, hfz741_1, hfz741_2, hfz741_3, hfz741_4, hfz741_5⟩ := zc6 BK368.out))
  first
  | refine bodyPost_ret (results_cell_row rfl _ _ gb368 28 #[.int .i64 t9000, .int .i64 (wrap64 (1 + t375)), .int .i64 t381, .int .i64 (wrap64 (1 + t384)), .int .i64 (wrap64 (1 + t387)), .int .i64 t393] (0, 0) _ rfl (by (with_reducible repeat (first | apply zNn | apply zNd | apply zNa)); exact blk_put (blk_put (blk_put (blk_put (blk_put (blk_put (zNf (BK368.out) NB368_396.out _) 0 _ rfl) 1 _ rfl) 2 _ rfl) 3 _ rfl) 4 _ rfl) 5 _ rfl) Try.underlying28 rfl ze) rfl ?_
  | refine bodyPost_ret (results_cell_row rfl _ _ gb368 28 #[.int .i64 t372, .int .i64 t9000, .int .i64 t381, .int .i64 (wrap64 (1 + t384)), .int .i64 (wrap64 (1 + t387)), .int .i64 t393] (0, 0) _ rfl (by (with_reducible repeat (first | apply zNn | apply zNd | apply zNa)); exact blk_put (blk_put (blk_put (blk_put (blk_put (blk_put (zNf (BK368.out) NB368_396.out _) 0 _ rfl) 1 _ rfl) 2 _ rfl) 3 _ rfl) 4 _ rfl) 5 _ rfl) Try.underlying28 rfl ze) rfl ?_
  | refine bodyPost_ret (results_cell_row rfl _ _ gb368 28 #[.int .i64 t372, .int .i64 (wrap64 (1 + t375)), .int .i64 t381, .int .i64 t9000, .int .i64 (wrap64 (1 + t387)), .int .i64 t393] (0, 0) _ rfl (by (with_reducible repeat (first | apply zNn | apply zNd | apply zNa)); exact blk_put (blk_put (blk_put (blk_put (blk_put (blk_put (zNf (BK368.out) NB368_396.out _) 0 _ rfl) 1 _ rfl) 2 _ rfl) 3 _ rfl) 4 _ rfl) 5 _ rfl) Try.underlying28 rfl ze) rfl ?_
  | refine bodyPost_ret (results_cell_row rfl _ _ gb368 28 #[.int .i64 t372, .int .i64 (wrap64 (1 + t375)), .int .i64 t381, .int .i64 (wrap64 (1 + t384)), .int .i64 t9000, .int .i64 t393] (0, 0) _ rfl (by (with_reducible repeat (first | apply zNn | apply zNd | apply zNa)); exact blk_put (blk_put (blk_put (blk_put (blk_put (blk_put (zNf (BK368.out) NB368_396.out _) 0 _ rfl) 1 _ rfl) 2 _ rfl) 3 _ rfl) 4 _ rfl) 5 _ rfl) Try.underlying28 rfl ze) rfl ?_
  | refine bodyPost_ret (results_cell_row rfl _ _ gb368 28 #[.int .i64 t372, .int .i64 (wrap64 (1 + t375)), .int .i64 t381, .int .i64 (wrap64 (1 + t384)), .int .i64 (wrap64 (1 + t387)), .int .i64 t9000] (0, 0) _ rfl (by (with_reducible repeat (first | apply zNn | apply zNd | apply zNa)); exact blk_put (blk_put (blk_put (blk_put (blk_put (blk_put (zNf (BK368.out) NB368_396.out _) 0 _ rfl) 1 _ rfl) 2 _ rfl) 3 _ rfl) 4 _ rfl) 5 _ rfl) Try.underlying28 rfl ze) rfl ?_
  | refine bodyPost_ret (results_cell_row rfl _ _ gb368 28 #[.int .i64 t372, .int .i64 (wrap64 (1 + t375)), .int .i64 t9000, .int .i64 (wrap64 (1 + t384)), .int .i64 (wrap64 (1 + t387)), .int .i64 t393] (0, 0) _ rfl (by (with_reducible repeat (first | apply zNn | apply zNd | apply zNa)); exact blk_put (blk_put (blk_put (blk_put (blk_put (blk_put (zNf (BK368.out) NB368_396.out _) 0 _ rfl) 1 _ rfl) 2 _ rfl) 3 _ rfl) 4 _ rfl) 5 _ rfl) Try.underlying28 rfl ze) rfl ?_
  | refine bodyPost_ret (results_cell_row rfl _ _ gb368 28 #[.int .i64 t372, .int .i64 (wrap64 (1 + t375)), .int .i64 t381, .int .i64 (wrap64 (1 + t384)), .int .i64 (wrap64 (1 + t387)), .int .i64 t393] (0, 0) _ rfl (by (with_reducible repeat (first | apply zNn | apply zNd | apply zNa)); exact blk_put (blk_put (blk_put (blk_put (blk_put (blk_put (BK368.out) 0 _ rfl) 1 _ rfl) 2 _ rfl) 3 _ rfl) 4 _ rfl) 5 _ rfl) Try.underlying28 rfl ze) rfl ?_
  exact ⟨zq, zi2 HI0, zb8, zk2⟩
def spec_l1Size.f (l0 : List Int) (a1 : Int) : Option (Int) := if (wrap64 (2 + (wrap64 ((l0.length : Int) / 20)))) > a1 then (some a1) else (some (wrap64 (2 + (wrap64 ((l0.length : Int) / 20)))))
theorem spec_l1Size.calls (A0 : Option Addr) (c0 : Nat) (l0 : List Int) (a1 : Int) (r : Int) (w : World) (hr0 : Kd.C (Kd.int .u8) w A0 l0.length l0) (hc0 : l0.length ≤ c0) (H : spec_l1Size.f l0 a1 = some r) :
 Calls Try.prog 48 #[.slice A0 l0.length c0, .int .i64 a1] w fun e w' => e = .returned (.int .i64 r) ∧ Drawn0 w w' := by
 have HR0 := zM hr0
 have HC0 := zM hc0
 clear hr0 hc0
 unfold spec_l1Size.f at H
 replace H := zI2 H
 rcases H with ⟨c3, H⟩ | ⟨c3, H⟩
 case inl =>
  have c3b0 : decide (a1 < (wrap64 (2 + (wrap64 ((l0.length : Int) / 20))))) = true := zE c3
  clear c3
  obtain rfl := zI H
  go_enter Try.func48, Try.ntmps48
  go_wp2
  go_ret
  exact ⟨zs, zd⟩
 have c3b0 : decide (a1 < (wrap64 (2 + (wrap64 ((l0.length : Int) / 20))))) = false := decide_eq_false c3
 clear c3
 obtain rfl := zI H
 go_enter Try.func48, Try.ntmps48
 go_wp2
 go_ret
 exact ⟨zs, zd⟩
def spec_l1Once.f (s0_0 : List Int) (s0_1 : Int) (s0_2 : Int) (a1 : Int) : Option (Bool × Int × Int) := (spec_l1Below.f s0_0 s0_1 s0_2 a1).bind fun bt436 => (some ((bt436.1 == 0), bt436.2.1, bt436.2.2))
theorem spec_l1Once.calls (g : Nat) (s0_0 : List Int) (s0_1 : Int) (s0_2 : Int) (a1 : Int) (r1 : Bool) (r2 : Int) (r3 : Int) (w0 w : World) (hI : IsS99 w0 w g s0_0 s0_1 s0_2) (hB : Below w0.heap.size w0 w) (H : spec_l1Once.f s0_0 s0_1 s0_2 a1 = some (r1, r2, r3)) :
 Calls Try.prog 49 #[.pointer (some ⟨g, 0, none⟩), .int .i64 a1] w fun e w' => e = .returned (.bool r1) ∧ IsS99 w0 w' g s0_0 r2 r3 ∧ Below w0.heap.size w0 w' ∧ KeepBut w w' g none := by
 have HI0 := zM hI
 have HK := zM (KeepBut.refl w g none)
 have HL := zM hB.size
 clear hI
 have HW0 := zM hB.size
 have HB := zM hB
 clear hB
 unfold spec_l1Once.f at H
 replace H := zP H
 obtain ⟨⟨t436, t437, t438⟩, A3, H⟩ := H
 dsimp only at H
 simp only [Option.some.injEq, Prod.mk.injEq] at H
 obtain ⟨rfl, rfl, rfl⟩ := H
 go_enter Try.func49, Try.ntmps49
 go_wp2_with (first | ((with_reducible refine gate_callee (f := 47) rfl ?_); refine goesL_ (some 7) rfl rfl Try.func47 ze rfl #[.pointer (some ⟨g, 0, none⟩), .int .i64 a1] rfl zg ?_; (with_reducible refine (spec_l1Below.calls g s0_0 s0_1 s0_2 a1 t436 t437 t438 w0 _ ?side1 ?side2 A3.out).mono ?_); (case side1 => exact zi HI0); (case side2 => exact zb6); rintro e w4 ⟨rfl, hi, hb, hk⟩; refine ⟨_, rfl, ?_⟩; refine zS3 (KeepBut.trans zk hk (.inl rfl)) (hb) (hi) ?_; clear HK HB HI0; intro HK HB HI0; (try clear hb); (try clear hb2); (try clear hk); (try clear hi)))
 go_ret
 exact ⟨zq, zi HI0, zb6, zk⟩
def spec_l14DrawBytes.l0 : Nat → Int → List Int → Int → List Int → Int → Int → Option (List Int × Int × Int)
 | 0, _, _, _, _, _, _ => none
 | k + 1, x1, x5, x6, x1000, x1001, x1002 => if x6 < x1 then ((spec_l1Byte.f x1000 x1001 x1002).bind fun bt442 => (if x5.length < 140737488355328 then (spec_l14DrawBytes.l0 k x1 (x5 ++ [(bt442.1) % 256]) (wrap64 (x6 + 1)) x1000 bt442.2.1 bt442.2.2) else (none))) else (some (x5, x1001, x1002))
def spec_l14DrawBytes.f (k : Nat) (s0_0 : List Int) (s0_1 : Int) (s0_2 : Int) (a1 : Int) : Option (List Int × Int × Int) := spec_l14DrawBytes.l0 k a1 (([] : List Int)) 0 s0_0 s0_1 s0_2
theorem spec_l14DrawBytes.calls (k : Nat) (g : Nat) (s0_0 : List Int) (s0_1 : Int) (s0_2 : Int) (a1 : Int) (r1 : List Int) (r2 : Int) (r3 : Int) (w0 w : World) (hI : IsS99 w0 w g s0_0 s0_1 s0_2) (hB : Below w0.heap.size w0 w) (H : spec_l14DrawBytes.f k s0_0 s0_1 s0_2 a1 = some (r1, r2, r3)) :
 Calls Try.prog 51 #[.pointer (some ⟨g, 0, none⟩), .int .i64 a1] w fun e w' => ∃ v0_ : Value, e = .returned (v0_) ∧ Kd.R (Kd.int .u8) 5 w' w.heap.size (fun _ => True) v0_ r1 ∧ IsS99 w0 w' g s0_0 r2 r3 ∧ Below w0.heap.size w0 w' ∧ KeepBut w w' g none := by
 have HI0 := zM hI
 have HK := zM (KeepBut.refl w g none)
 have HL := zM hB.size
 clear hI
 have HW0 := zM hB.size
 have HB := zM hB
 clear hB
 unfold spec_l14DrawBytes.f at H
 obtain ⟨y439, hy439⟩ : ∃ y_ : List Int, y_ = (([] : List Int)) := ⟨_, rfl⟩
 replace H : (spec_l14DrawBytes.l0 k a1 y439 0 s0_0 s0_1 s0_2) = some (r1, r2, r3) := zy hy439 H
 have Ny439 := zM hy439
 clear hy439
 have H' := zM H
 clear H
 go_enter Try.func51, Try.ntmps51
 go_wp2_with (first | ((with_reducible refine gate_dst (N := 7) rfl ?_); refine Kd.R_lit (Kd.int .u8) _ 5 ?hg (N := 7) ?hd (xs := ([] : List Int)) (inner := []) (ok := fun _ => True) (okp := fun _ => True) ?hr ?hp (fun _ hk => hk) trivial (Below.refl _ _) (Nat.le_refl _) (by simp) ?_; (case hd | hg => rfl); (case hr => exact zh); (case hp => exact (Reps.none _ _)); intro v440 w3 ho4 hb hg_ hnew_; clear hg_ hnew_; (first | rw [← Ny439.out] at ho4 | simp only [Int.reduceToNat, ← Ny439.out] at ho4); refine zS4 (Kd.R_lower ho4 (keep_size (w := w) (g := g) (row := none) zk)) (IsS99.below (zi HI0) hb) (KeepBut.trans zk (KeepBut.of_below hb g none) (.inl rfl)) (below_step zb6 hb) ?_; clear HI0 HK HB; intro HO441 HI0 HK HB; clear hb ho4))
 (try simp only [Act.put, zS1, zS2, zS3])
 go_loopg [5, 6] k (fun kq v5 v6 w' => ∃ (x5_1 : List Int) (x6_1 : Int) (x1001_1 : Int) (x1002_1 : Int), v6 = .int .i64 x6_1 ∧ Aside0 (spec_l14DrawBytes.l0 kq a1 x5_1 x6_1 s0_0 x1001_1 x1002_1 = some (r1, r2, r3)) ∧ Aside0 (kq ≤ k) ∧ Aside0 (Kd.R (Kd.int .u8) 5 w' w.heap.size (fun _ => True) v5 x5_1) ∧ Aside0 (IsS99 w0 w' g s0_0 x1001_1 x1002_1) ∧ Aside0 (KeepBut w w' g none) ∧ Aside0 (Below w0.heap.size w0 w'))
 case atStart => exact ⟨(y439), (0), (s0_1), (s0_2), zs, H', ⟨Nat.le_refl _⟩, ⟨zr HO441⟩, ⟨zi HI0⟩, ⟨zk⟩, ⟨zb6⟩⟩
 case round =>
  clear H'
  try clear p2
  obtain ⟨x5_1, x6_1, x1001_1, x1002_1, rfl, HA, HK1, HO_5, HI0, HK, HB⟩ := hrel
  cases gk with
  | zero => exact absurd HA.out (by simp [spec_l14DrawBytes.l0])
  | succ k1 =>
   have H := HA.out
   clear HA
   simp only [spec_l14DrawBytes.l0] at H
   replace H := zI2 H
   rcases H with ⟨c5, H⟩ | ⟨c5, H⟩
   case inr =>
    have c5b0 := decide_eq_false c5
    clear c5
    simp only [Option.some.injEq, Prod.mk.injEq] at H
    obtain ⟨rfl, rfl, rfl⟩ := H
    go_wp2
    go_ret
    exact ⟨_, zq, zr HO_5, zi HI0, zb6, zk⟩
   have c5b0 := zE c5
   clear c5
   replace H := zP H
   obtain ⟨⟨t442, t443, t444⟩, A6, H⟩ := H
   dsimp only at H
   replace H := zIM H
   obtain ⟨LMc7, H⟩ := H
   obtain ⟨y445, hy445⟩ : ∃ y_ : List Int, y_ = (x5_1 ++ [(t442) % 256]) := ⟨_, rfl⟩
   rw [← hy445] at H
   have Ny445 := zM hy445
   clear hy445
   have H' := zM H
   clear H
   go_wp2_with (first | ((with_reducible refine gate_callee (f := 95) rfl ?_); refine goesL_ (some 15) rfl rfl Try.func95 ze rfl #[.pointer (some ⟨g, 0, none⟩)] rfl zg ?_; (with_reducible refine (spec_l1Byte.calls g s0_0 x1001_1 x1002_1 t442 t443 t444 w0 _ ?side1 ?side2 A6.out).mono ?_); (case side1 => exact zi HI0); (case side2 => exact zb6); rintro e w8 ⟨rfl, hi, hb, hk⟩; refine ⟨_, rfl, ?_⟩; refine zS4 (Kd.R_mono (Kd.R_keep (IsS99.apart (show IsS99 w0 _ g s0_0 x1001_1 x1002_1 from zi HI0) (zr HO_5) (by decide)) hk (fun _ h => h.2)) (fun _ h => h.1)) (KeepBut.trans zk hk (.inl rfl)) (hb) (hi) ?_; clear HO_5 HK HB HI0; intro HO_5 HK HB HI0; (try clear hb); (try clear hb2); (try clear hk); (try clear hi)) | ((with_reducible refine gate_builtin (b := .append) (xs := #[.tmp 13, .tmp 17]) rfl ?_); at_builtin; refine Kd.R_append (Kd.int .u8) w.heap.size rfl (.tmp 13) (.tmp 17) 24 5 (.int .u8 0) 1 rfl Try.underlying24 info5 rfl (by decide) (by omega) u5 x5_1 ((t442) % 256) [.int .u8 ((t442) % 256)] (fun _ => True) (fun _ => False) rfl rfl ?aP (fun _ hk => hk.elim) ?aF ?aO (Below.refl _ _) ?aS ?aL ?_; (case aP => exact rfl); (case aF => exact (fun _ _ => trivial)); (case aO => exact (zr HO_5)); (case aS => exact (keep_size (w := w) (g := g) (row := none) zk)); (case aL => have := LMc7.out; omega); intro v446 w9 ho hb hg hat; (first | rw [← Ny445.out] at ho | simp only [Int.reduceToNat, ← Ny445.out] at ho); refine zS4 (IsS99.grown (zi HI0) hg (IsS99.own_ne HI0.out HO_5.out (by decide))) (below_weaken zb6 HL.out hb) (KeepBut.trans zk (KeepBut.of_grown hg g) (Kd.R_base2 HO_5.out)) (ho) ?_; clear HI0 HB HK HO_5; intro HI0 HB HK HO447; clear ho hb hg hat))
   go_roundg k1
   case measure => have := HK1.out; omega
   case rel => exact ⟨(y445), (wrap64 (x6_1 + 1)), (t443), (t444), zs, H', ⟨zl1 HK1⟩, ⟨zr HO447⟩, ⟨zi HI0⟩, ⟨zk⟩, ⟨zb6⟩⟩
def spec_DrawSend.f (k : Nat) (l0 : List Int) : Option (Int × Int × Int × Int × Int × Int × List Int) := (spec_l1New.f k l0).bind fun bt449 => ((spec_l18Draw.f bt449.1 bt449.2.1 bt449.2.2).bind fun bt453 => ((spec_l1Size.f l0 10).bind fun t462 => ((spec_l1Below.f bt449.1 bt453.2.2.2.2.2.2.1 bt453.2.2.2.2.2.2.2 t462).bind fun bt463 => ((spec_l1Once.f bt449.1 bt463.2.1 bt463.2.2 30).bind fun bt466 => (if bt466.1 = true then ((spec_l1PickInt.f bt449.1 bt466.2.1 bt466.2.2 (([0, 40, 41] : List Int))).bind fun bt472 => ((spec_l14DrawBytes.f k bt449.1 bt472.2.1 bt472.2.2 bt472.1).bind fun bt475 => (some (bt453.1, bt453.2.1, bt453.2.2.1, bt453.2.2.2.1, bt453.2.2.2.2.1, bt453.2.2.2.2.2.1, bt475.1)))) else ((spec_l14DrawBytes.f k bt449.1 bt466.2.1 bt466.2.2 (wrap64 (1 + bt463.1))).bind fun bt480 => (some (bt453.1, bt453.2.1, bt453.2.2.1, bt453.2.2.2.1, bt453.2.2.2.2.1, bt453.2.2.2.2.2.1, bt480.1))))))))
theorem spec_DrawSend.calls (k : Nat) (A0 : Option Addr) (c0 : Nat) (l0 : List Int) (r1 : Int) (r2 : Int) (r3 : Int) (r4 : Int) (r5 : Int) (r6 : Int) (r7 : List Int) (w : World) (hr0 : Kd.C (Kd.int .u8) w A0 l0.length l0) (hc0 : l0.length ≤ c0) (H : spec_DrawSend.f k l0 = some (r1, r2, r3, r4, r5, r6, r7)) :
 Calls Try.prog 17 #[.slice A0 l0.length c0] w fun e w' => ∃ v6_ : Value, e = .returned (.tuple #[.agg #[.int .i64 r1, .int .i64 r2, .int .i64 r3, .int .i64 r4, .int .i64 r5, .int .i64 r6], v6_]) ∧ Kd.R (Kd.int .u8) 5 w' w.heap.size (fun _ => True) v6_ r7 ∧ Below w.heap.size w w' := by
 have hu28 := Try.underlying28
 have HR0 := zM hr0
 have HC0 := zM hc0
 clear hr0 hc0
 have HB := zM (Below.refl w.heap.size w)
 unfold spec_DrawSend.f at H
 replace H := zP H
 obtain ⟨⟨t449, t450, t451⟩, A2, H⟩ := H
 dsimp only at H
 replace H := zP H
 obtain ⟨⟨t453, t454, t455, t456, t457, t458, t459, t460⟩, A3, H⟩ := H
 dsimp only at H
 replace H := zP H
 obtain ⟨t462, A4, H⟩ := H
 replace H := zP H
 obtain ⟨⟨t463, t464, t465⟩, A5, H⟩ := H
 dsimp only at H
 replace H := zP H
 obtain ⟨⟨t466, t467, t468⟩, A6, H⟩ := H
 dsimp only at H
 by_cases c7 : t466 = true
 case neg =>
  replace c7 := Bool.eq_false_iff.mpr c7
  subst c7
  rw [if_neg zFT] at H
  replace H := zP H
  obtain ⟨⟨t480, t483, t484⟩, A31, H⟩ := H
  dsimp only at H
  simp only [Option.some.injEq, Prod.mk.injEq] at H
  obtain ⟨rfl, rfl, rfl, rfl, rfl, rfl, rfl⟩ := H
  go_enter Try.func17, Try.ntmps17
  try go_wp2_with (first | ((with_reducible refine gate_dst (N := 2) rfl ?_); refine box_event ?hg (N := 2) ?hd (cs := #[.int .i64 0, .int .i64 0, .int .i64 0, .int .i64 0, .int .i64 0, .int .i64 0]) (t := 28) ?hr ?_; (case hd | hg => rfl); (case hr => exact zh); intro gb448 hg w32 hbox hb; have n0_ := zM (below_step zb hb); have n1_ := zM (hbox); have n2_ := zM ((zw hg (below_size zb))); have n3_ := zM n2_.out; clear HB; have HB := n0_; have BK448 := n1_; have GW448 := n2_; have GE448 := n3_; clear n0_ n1_ n2_ n3_; clear hb hbox hg) | ((with_reducible refine gate_callee (f := 45) rfl ?_); refine goesL_ (some 8) rfl rfl Try.func45 ze rfl #[.slice A0 l0.length c0] rfl zg ?_; (with_reducible refine (spec_l1New.calls k _ _ l0 t449 t450 t451 w _ ?side1 ?side2 ?side3 A2.out).mono ?_); (case side1 => exact zb12); (case side2 => exact HR0.out); (case side3 => exact HC0.out); rintro e w33 ⟨g452, rfl, hi, hb, hb2⟩; refine ⟨_, rfl, ?_⟩; refine zS5 (zNb (g := gb448) (o := .cells #[.int .i64 0, .int .i64 0, .int .i64 0, .int .i64 0, .int .i64 0, .int .i64 0] 28 (0, 0)) (zn BK448) hb2) (hb) (hi) (IsS99.ne_blk hi (zNb (g := gb448) (o := .cells #[.int .i64 0, .int .i64 0, .int .i64 0, .int .i64 0, .int .i64 0, .int .i64 0] 28 (0, 0)) (zn BK448) hb2) (by decide)) (Ne.symm (IsS99.ne_blk hi (zNb (g := gb448) (o := .cells #[.int .i64 0, .int .i64 0, .int .i64 0, .int .i64 0, .int .i64 0, .int .i64 0] 28 (0, 0)) (zn BK448) hb2) (by decide))) ?_; clear BK448 HB; intro BK448 HB HI452 NB452_448 NB448_452; (try clear hb); (try clear hb2); (try clear hk); (try clear hi)) | ((with_reducible refine gate_callee (f := 46) rfl ?_); refine goesL_ (some 10) rfl rfl Try.func46 ze rfl #[.pointer (some ⟨g452, 0, none⟩)] rfl zg ?_; (with_reducible refine (spec_l18Draw.calls g452 t449 t450 t451 t453 t454 t455 t456 t457 t458 t459 t460 w _ ?side1 ?side2 A3.out).mono ?_); (case side1 => exact zi3 HI452); (case side2 => exact zb9); rintro e w34 ⟨rfl, hi, hb, hk⟩; refine ⟨_, rfl, ?_⟩; refine zS3 (KeepBut.blk hk (g' := gb448) (o := .cells #[.int .i64 0, .int .i64 0, .int .i64 0, .int .i64 0, .int .i64 0, .int .i64 0] 28 (0, 0)) (zn BK448) NB448_452.out (by simp)) (hb) (hi) ?_; clear BK448 HB HI452; intro BK448 HB HI452; (try clear hb); (try clear hb2); (try clear hk); (try clear hi)) | ((with_reducible refine gate_dst (N := 5) rfl ?_); refine box_event ?hg (N := 5) ?hd (cs := #[.int .i64 0, .int .i64 0, .int .i64 0, .int .i64 0, .int .i64 0, .int .i64 0]) (t := 28) ?hr ?_; (case hd | hg => rfl); (case hr => exact zh); intro gb461 hg w35 hbox hb; have n0_ := zM (zNb (g := gb448) (o := .cells #[.int .i64 0, .int .i64 0, .int .i64 0, .int .i64 0, .int .i64 0, .int .i64 0] 28 (0, 0)) (zn BK448) hb); have n1_ := zM (IsS99.below (zi3 HI452) hb); have n2_ := zM (below_step zb9 hb); have n3_ := zM (hbox); have n4_ := zM ((zw hg (below_size zb9))); have n5_ := zM n4_.out; have n6_ := zM ((by rw [hg]; exact Nat.ne_of_lt (by simpa using blk_lt BK448.out) : gb448 ≠ gb461)); have n7_ := zM ((by rw [hg]; exact Nat.ne_of_gt (by simpa using blk_lt BK448.out) : gb461 ≠ gb448)); have n8_ := zM ((by rw [hg]; exact Nat.ne_of_lt (IsS99.lt (show IsS99 w _ g452 t449 t459 t460 from zi3 HI452)) : g452 ≠ gb461)); have n9_ := zM ((by rw [hg]; exact Nat.ne_of_gt (IsS99.lt (show IsS99 w _ g452 t449 t459 t460 from zi3 HI452)) : gb461 ≠ g452)); clear BK448; clear HI452; clear HB; have BK448 := n0_; have HI452 := n1_; have HB := n2_; have BK461 := n3_; have GW461 := n4_; have GE461 := n5_; have NB448_461 := n6_; have NB461_448 := n7_; have NB452_461 := n8_; have NB461_452 := n9_; clear n0_ n1_ n2_ n3_ n4_ n5_ n6_ n7_ n8_ n9_; clear hb hbox hg; have hnb36 := NB461_448.out; have hnc36 := NB448_461.out; have hnb37 := NB461_452.out; have hnc37 := NB452_461.out; obtain ⟨hcz38_0, hcz38_1, hcz38_2, hcz38_3, hcz38_4, hcz38_5, hfz38_0, hfz38_1, hfz38_2, hfz38_3, hfz38_4, hfz38_5⟩ := zc6 BK461.out) | ((with_reducible refine gate_callee (f := 48) rfl ?_); refine goesL_ (some 13) rfl rfl Try.func48 ze rfl #[.slice A0 l0.length c0, .int .i64 10] rfl zg ?_; (with_reducible refine (spec_l1Size.calls _ _ l0 10 t462 _ ?side1 ?side2 A4.out).mono ?_); (case side1 => exact Kd.C_below HR0.out zb10); (case side2 => exact HC0.out); rintro e w' ⟨rfl, ⟨nd, rfl⟩⟩; refine ⟨_, rfl, ?_⟩) | ((with_reducible refine gate_callee (f := 47) rfl ?_); refine goesL_ (some 14) rfl rfl Try.func47 ze rfl #[.pointer (some ⟨g452, 0, none⟩), .int .i64 t462] rfl zg ?_; (with_reducible refine (spec_l1Below.calls g452 t449 t459 t460 t462 t463 t464 t465 w _ ?side1 ?side2 A5.out).mono ?_); (case side1 => exact zi4 HI452); (case side2 => exact zb10); rintro e w39 ⟨rfl, hi, hb, hk⟩; refine ⟨_, rfl, ?_⟩; refine zS4 (KeepBut.blk hk (g' := gb448) (o := .cells #[.int .i64 0, .int .i64 0, .int .i64 0, .int .i64 0, .int .i64 0, .int .i64 0] 28 (0, 0)) (zn3 BK448) NB448_452.out (by simp)) (KeepBut.blk hk (g' := gb461) (o := .cells #[.int .i64 t453, .int .i64 t454, .int .i64 t455, .int .i64 t456, .int .i64 t457, .int .i64 t458] 28 (0, 0)) (by (with_reducible repeat (first | apply zNn | apply zNd | apply zNa)); exact blk_put (blk_put (blk_put (blk_put (blk_put (blk_put (BK461.out) 0 _ rfl) 1 _ rfl) 2 _ rfl) 3 _ rfl) 4 _ rfl) 5 _ rfl) NB461_452.out (by simp)) (hb) (hi) ?_; clear BK448 BK461 HB HI452; intro BK448 BK461 HB HI452; (try clear hb); (try clear hb2); (try clear hk); (try clear hi)) | ((with_reducible refine gate_callee (f := 49) rfl ?_); refine goesL_ (some 17) rfl rfl Try.func49 ze rfl #[.pointer (some ⟨g452, 0, none⟩), .int .i64 30] rfl zg ?_; (with_reducible refine (spec_l1Once.calls g452 t449 t464 t465 30 false t467 t468 w _ ?side1 ?side2 A6.out).mono ?_); (case side1 => exact zi4 HI452); (case side2 => exact zb10); rintro e w40 ⟨rfl, hi, hb, hk⟩; refine ⟨_, rfl, ?_⟩; refine zS4 (KeepBut.blk hk (g' := gb448) (o := .cells #[.int .i64 0, .int .i64 0, .int .i64 0, .int .i64 0, .int .i64 0, .int .i64 0] 28 (0, 0)) (zn BK448) NB448_452.out (by simp)) (KeepBut.blk hk (g' := gb461) (o := .cells #[.int .i64 t453, .int .i64 t454, .int .i64 t455, .int .i64 t456, .int .i64 t457, .int .i64 t458] 28 (0, 0)) (zn BK461) NB461_452.out (by simp)) (hb) (hi) ?_; clear BK448 BK461 HB HI452; intro BK448 BK461 HB HI452; (try clear hb); (try clear hb2); (try clear hk); (try clear hi)))
  refine zS4 (zNd BK448.out) (zNd BK461.out) (IsS99.drew HI452.out) (zBd HB.out) ?_
  clear BK448 BK461 HI452 HB
  intro BK448 BK461 HI452 HB
  refine start_ (n := 6) (S := fun w' => w'.cell? ⟨gb461, 0, none⟩ = some (.int .i64 t453) ∧ w'.cell? ⟨gb461, 1, none⟩ = some (.int .i64 t454) ∧ w'.cell? ⟨gb461, 2, none⟩ = some (.int .i64 t455) ∧ w'.cell? ⟨gb461, 3, none⟩ = some (.int .i64 t456) ∧ w'.cell? ⟨gb461, 4, none⟩ = some (.int .i64 t457) ∧ w'.cell? ⟨gb461, 5, none⟩ = some (.int .i64 t458)) (ds := []) #[zf,zf,zf,zf,zf,zf] ze rfl rfl ⟨(blk_cell BK461.out 0).trans rfl, (blk_cell BK461.out 1).trans rfl, (blk_cell BK461.out 2).trans rfl, (blk_cell BK461.out 3).trans rfl, (blk_cell BK461.out 4).trans rfl, (blk_cell BK461.out 5).trans rfl⟩ (fun hHeld => ?_)
  generalize w40.drew = w41 at BK448 BK461 HI452 HB hHeld ⊢
  refine pure_ (i := 1) (N := some 22) #[zf,zt,zf,zf,zf,zf] rfl rfl ze (fun _ _ _ h => h) (Or.inl ⟨by rfl, zv⟩) za ?_
  refine pure_ (i := 2) (N := some 23) #[zf,zt,zt,zf,zf,zf] rfl rfl ze (fun _ _ _ h => h) (Or.inl ⟨by rfl, zv⟩) za ?_
  refine take_ (i := 0) (N := some 21) #[zt,zt,zt,zf,zf,zf] rfl rfl ze (fun _ _ _ h => h) (Or.inl ⟨by rfl, zv6⟩) hHeld za ?_
  refine one_ (i := 3) (N := some 24) #[zt,zt,zt,zt,zf,zf] rfl rfl ze (by decide) (fun K hK => ?_)
  refine goes_ Try.func51 ze rfl #[.pointer (some ⟨g452, 0, none⟩), .int .i64 (wrap64 (1 + t463))] (by rfl) rfl rfl zg ?_
  with_reducible refine (spec_l14DrawBytes.calls k g452 t449 t467 t468 (wrap64 (1 + t463)) t480 t483 t484 w _ ?side1 ?side2 A31.out).mono ?_
  (case side1 => exact zi4 HI452)
  (case side2 => exact zb10)
  rintro e w42 ⟨v481, rfl, ho0, hi, hb, hk⟩
  refine ⟨_, rfl, ?_⟩
  refine zS5 (KeepBut.blk hk (g' := gb448) (o := .cells #[.int .i64 0, .int .i64 0, .int .i64 0, .int .i64 0, .int .i64 0, .int .i64 0] 28 (0, 0)) (zn BK448) NB448_452.out (by simp)) (KeepBut.blk hk (g' := gb461) (o := .cells #[.int .i64 t453, .int .i64 t454, .int .i64 t455, .int .i64 t456, .int .i64 t457, .int .i64 t458] 28 (0, 0)) (zn BK461) NB461_452.out (by simp)) (Kd.R_lower ho0 (below_size zb10)) (hb) (hi) ?_
  clear BK448 BK461 HB HI452
  intro BK448 BK461 HO482 HB HI452
  (try clear hb)
  (try clear hb2)
  (try clear hk)
  (try clear hi)
  (try clear ho0)
  refine hK.out _ _ ⟨(blk_cell BK461.out 0).trans rfl, (blk_cell BK461.out 1).trans rfl, (blk_cell BK461.out 2).trans rfl, (blk_cell BK461.out 3).trans rfl, (blk_cell BK461.out 4).trans rfl, (blk_cell BK461.out 5).trans rfl⟩ (fun hHeld => ?_)
  clear hK K
  refine norm_ (a' := ?_) ?_ ?_
  rotate_left
  ·show Act.put _ (some 24) _ = _
   simp only [Act.put, zS1, zS2, zS3, i64_w, i32_w]
   rfl
  refine one_ (i := 4) (N := none) #[zt,zt,zt,zt,zt,zf] rfl rfl ze (by decide) (fun K hK => ?_)
  have hs43 : w42.cell? ⟨gb448, 0, none⟩ = some (.int .i64 0) := (blk_cell BK448.out 0).trans rfl
  have hfs43 := blk_frozen BK448.out 0
  have hns43_1 := NB461_448.out
  have hms43_1 := NB448_461.out
  have hs44 : w42.cell? ⟨gb448, 1, none⟩ = some (.int .i64 0) := (blk_cell BK448.out 1).trans rfl
  have hfs44 := blk_frozen BK448.out 1
  have hns44_1 := NB461_448.out
  have hms44_1 := NB448_461.out
  have hs45 : w42.cell? ⟨gb448, 2, none⟩ = some (.int .i64 0) := (blk_cell BK448.out 2).trans rfl
  have hfs45 := blk_frozen BK448.out 2
  have hns45_1 := NB461_448.out
  have hms45_1 := NB448_461.out
  have hs46 : w42.cell? ⟨gb448, 3, none⟩ = some (.int .i64 0) := (blk_cell BK448.out 3).trans rfl
  have hfs46 := blk_frozen BK448.out 3
  have hns46_1 := NB461_448.out
  have hms46_1 := NB448_461.out
  have hs47 : w42.cell? ⟨gb448, 4, none⟩ = some (.int .i64 0) := (blk_cell BK448.out 4).trans rfl
  have hfs47 := blk_frozen BK448.out 4
  have hns47_1 := NB461_448.out
  have hms47_1 := NB448_461.out
  have hs48 : w42.cell? ⟨gb448, 5, none⟩ = some (.int .i64 0) := (blk_cell BK448.out 5).trans rfl
  have hfs48 := blk_frozen BK448.out 5
  have hns48_1 := NB461_448.out
  have hms48_1 := NB448_461.out
  refine skip_ (w1 := ?_) (by rfl) rfl ?_ ?_
  rotate_left
  ·go_simp
   rfl
  refine hK.out _ _ ⟨((cell_far (p := ⟨gb448, _, none⟩) NB461_448.out _).trans (((cell_far (p := ⟨gb448, _, none⟩) NB461_448.out _).trans (((cell_far (p := ⟨gb448, _, none⟩) NB461_448.out _).trans (((cell_far (p := ⟨gb448, _, none⟩) NB461_448.out _).trans (((cell_far (p := ⟨gb448, _, none⟩) NB461_448.out _).trans (((cell_far (p := ⟨gb448, _, none⟩) NB461_448.out _).trans (hHeld.1)))))))))))), ((cell_far (p := ⟨gb448, _, none⟩) NB461_448.out _).trans (((cell_far (p := ⟨gb448, _, none⟩) NB461_448.out _).trans (((cell_far (p := ⟨gb448, _, none⟩) NB461_448.out _).trans (((cell_far (p := ⟨gb448, _, none⟩) NB461_448.out _).trans (((cell_far (p := ⟨gb448, _, none⟩) NB461_448.out _).trans (((cell_far (p := ⟨gb448, _, none⟩) NB461_448.out _).trans (hHeld.2.1)))))))))))), ((cell_far (p := ⟨gb448, _, none⟩) NB461_448.out _).trans (((cell_far (p := ⟨gb448, _, none⟩) NB461_448.out _).trans (((cell_far (p := ⟨gb448, _, none⟩) NB461_448.out _).trans (((cell_far (p := ⟨gb448, _, none⟩) NB461_448.out _).trans (((cell_far (p := ⟨gb448, _, none⟩) NB461_448.out _).trans (((cell_far (p := ⟨gb448, _, none⟩) NB461_448.out _).trans (hHeld.2.2.1)))))))))))), ((cell_far (p := ⟨gb448, _, none⟩) NB461_448.out _).trans (((cell_far (p := ⟨gb448, _, none⟩) NB461_448.out _).trans (((cell_far (p := ⟨gb448, _, none⟩) NB461_448.out _).trans (((cell_far (p := ⟨gb448, _, none⟩) NB461_448.out _).trans (((cell_far (p := ⟨gb448, _, none⟩) NB461_448.out _).trans (((cell_far (p := ⟨gb448, _, none⟩) NB461_448.out _).trans (hHeld.2.2.2.1)))))))))))), ((cell_far (p := ⟨gb448, _, none⟩) NB461_448.out _).trans (((cell_far (p := ⟨gb448, _, none⟩) NB461_448.out _).trans (((cell_far (p := ⟨gb448, _, none⟩) NB461_448.out _).trans (((cell_far (p := ⟨gb448, _, none⟩) NB461_448.out _).trans (((cell_far (p := ⟨gb448, _, none⟩) NB461_448.out _).trans (((cell_far (p := ⟨gb448, _, none⟩) NB461_448.out _).trans (hHeld.2.2.2.2.1)))))))))))), ((cell_far (p := ⟨gb448, _, none⟩) NB461_448.out _).trans (((cell_far (p := ⟨gb448, _, none⟩) NB461_448.out _).trans (((cell_far (p := ⟨gb448, _, none⟩) NB461_448.out _).trans (((cell_far (p := ⟨gb448, _, none⟩) NB461_448.out _).trans (((cell_far (p := ⟨gb448, _, none⟩) NB461_448.out _).trans (((cell_far (p := ⟨gb448, _, none⟩) NB461_448.out _).trans (hHeld.2.2.2.2.2))))))))))))⟩ (fun hHeld => ?_)
  clear hK K
  refine pure_ (i := 5) (N := some 3) #[zt,zt,zt,zt,zt,zt] rfl rfl ze (fun _ _ _ h => h) (Or.inl ⟨by rfl, zv⟩) za ?_
  refine done_ ze ?_
  try go_wp2
  refine bodyPost_ret (results_ct rfl _ _ gb448 28 #[.int .i64 t453, .int .i64 t454, .int .i64 t455, .int .i64 t456, .int .i64 t457, .int .i64 t458] (0, 0) _ rfl (by (with_reducible repeat (first | apply zNn | apply zNd | apply zNa)); exact blk_put (blk_put (blk_put (blk_put (blk_put (blk_put (BK448.out) 0 _ rfl) 1 _ rfl) 2 _ rfl) 3 _ rfl) 4 _ rfl) 5 _ rfl) Try.underlying28 rfl ze) rfl ?_
  exact ⟨_, zq, by (with_reducible repeat (first | apply zRa | apply zRn | apply zRd)); exact Kd.R_mono (Kd.R_far (p := ⟨gb448, 5, none⟩) (Kd.R_far (p := ⟨gb448, 4, none⟩) (Kd.R_far (p := ⟨gb448, 3, none⟩) (Kd.R_far (p := ⟨gb448, 2, none⟩) (Kd.R_far (p := ⟨gb448, 1, none⟩) (Kd.R_far (p := ⟨gb448, 0, none⟩) (Kd.R_types HO482.out BK448.out (by decide)) (fun _ hk => hk.2) (.int .i64 t453)) (fun _ hk => hk.2) (.int .i64 t454)) (fun _ hk => hk.2) (.int .i64 t455)) (fun _ hk => hk.2) (.int .i64 t456)) (fun _ hk => hk.2) (.int .i64 t457)) (fun _ hk => hk.2) (.int .i64 t458)) (fun _ hk => trivial), zb10⟩
 subst c7
 rw [if_pos rfl] at H
 obtain ⟨y469, hy469⟩ : ∃ y_ : List Int, y_ = (([0, 40, 41] : List Int)) := ⟨_, rfl⟩
 rw [← hy469] at H
 have Ny469 := zM hy469
 clear hy469
 replace H := zP H
 obtain ⟨⟨t472, t473, t474⟩, A8, H⟩ := H
 dsimp only at H
 replace H := zP H
 obtain ⟨⟨t475, t478, t479⟩, A9, H⟩ := H
 dsimp only at H
 simp only [Option.some.injEq, Prod.mk.injEq] at H
 obtain ⟨rfl, rfl, rfl, rfl, rfl, rfl, rfl⟩ := H
 go_enter Try.func17, Try.ntmps17
 try go_wp2_with (first | ((with_reducible refine gate_dst (N := 2) rfl ?_); refine box_event ?hg (N := 2) ?hd (cs := #[.int .i64 0, .int .i64 0, .int .i64 0, .int .i64 0, .int .i64 0, .int .i64 0]) (t := 28) ?hr ?_; (case hd | hg => rfl); (case hr => exact zh); intro gb448 hg w10 hbox hb; have n0_ := zM (below_step zb hb); have n1_ := zM (hbox); have n2_ := zM ((zw hg (below_size zb))); have n3_ := zM n2_.out; clear HB; have HB := n0_; have BK448 := n1_; have GW448 := n2_; have GE448 := n3_; clear n0_ n1_ n2_ n3_; clear hb hbox hg) | ((with_reducible refine gate_callee (f := 45) rfl ?_); refine goesL_ (some 8) rfl rfl Try.func45 ze rfl #[.slice A0 l0.length c0] rfl zg ?_; (with_reducible refine (spec_l1New.calls k _ _ l0 t449 t450 t451 w _ ?side1 ?side2 ?side3 A2.out).mono ?_); (case side1 => exact zb12); (case side2 => exact HR0.out); (case side3 => exact HC0.out); rintro e w11 ⟨g452, rfl, hi, hb, hb2⟩; refine ⟨_, rfl, ?_⟩; refine zS5 (zNb (g := gb448) (o := .cells #[.int .i64 0, .int .i64 0, .int .i64 0, .int .i64 0, .int .i64 0, .int .i64 0] 28 (0, 0)) (zn BK448) hb2) (hb) (hi) (IsS99.ne_blk hi (zNb (g := gb448) (o := .cells #[.int .i64 0, .int .i64 0, .int .i64 0, .int .i64 0, .int .i64 0, .int .i64 0] 28 (0, 0)) (zn BK448) hb2) (by decide)) (Ne.symm (IsS99.ne_blk hi (zNb (g := gb448) (o := .cells #[.int .i64 0, .int .i64 0, .int .i64 0, .int .i64 0, .int .i64 0, .int .i64 0] 28 (0, 0)) (zn BK448) hb2) (by decide))) ?_; clear BK448 HB; intro BK448 HB HI452 NB452_448 NB448_452; (try clear hb); (try clear hb2); (try clear hk); (try clear hi)) | ((with_reducible refine gate_callee (f := 46) rfl ?_); refine goesL_ (some 10) rfl rfl Try.func46 ze rfl #[.pointer (some ⟨g452, 0, none⟩)] rfl zg ?_; (with_reducible refine (spec_l18Draw.calls g452 t449 t450 t451 t453 t454 t455 t456 t457 t458 t459 t460 w _ ?side1 ?side2 A3.out).mono ?_); (case side1 => exact zi3 HI452); (case side2 => exact zb9); rintro e w12 ⟨rfl, hi, hb, hk⟩; refine ⟨_, rfl, ?_⟩; refine zS3 (KeepBut.blk hk (g' := gb448) (o := .cells #[.int .i64 0, .int .i64 0, .int .i64 0, .int .i64 0, .int .i64 0, .int .i64 0] 28 (0, 0)) (zn BK448) NB448_452.out (by simp)) (hb) (hi) ?_; clear BK448 HB HI452; intro BK448 HB HI452; (try clear hb); (try clear hb2); (try clear hk); (try clear hi)) | ((with_reducible refine gate_dst (N := 5) rfl ?_); refine box_event ?hg (N := 5) ?hd (cs := #[.int .i64 0, .int .i64 0, .int .i64 0, .int .i64 0, .int .i64 0, .int .i64 0]) (t := 28) ?hr ?_; (case hd | hg => rfl); (case hr => exact zh); intro gb461 hg w13 hbox hb; have n0_ := zM (zNb (g := gb448) (o := .cells #[.int .i64 0, .int .i64 0, .int .i64 0, .int .i64 0, .int .i64 0, .int .i64 0] 28 (0, 0)) (zn BK448) hb); have n1_ := zM (IsS99.below (zi3 HI452) hb); have n2_ := zM (below_step zb9 hb); have n3_ := zM (hbox); have n4_ := zM ((zw hg (below_size zb9))); have n5_ := zM n4_.out; have n6_ := zM ((by rw [hg]; exact Nat.ne_of_lt (by simpa using blk_lt BK448.out) : gb448 ≠ gb461)); have n7_ := zM ((by rw [hg]; exact Nat.ne_of_gt (by simpa using blk_lt BK448.out) : gb461 ≠ gb448)); have n8_ := zM ((by rw [hg]; exact Nat.ne_of_lt (IsS99.lt (show IsS99 w _ g452 t449 t459 t460 from zi3 HI452)) : g452 ≠ gb461)); have n9_ := zM ((by rw [hg]; exact Nat.ne_of_gt (IsS99.lt (show IsS99 w _ g452 t449 t459 t460 from zi3 HI452)) : gb461 ≠ g452)); clear BK448; clear HI452; clear HB; have BK448 := n0_; have HI452 := n1_; have HB := n2_; have BK461 := n3_; have GW461 := n4_; have GE461 := n5_; have NB448_461 := n6_; have NB461_448 := n7_; have NB452_461 := n8_; have NB461_452 := n9_; clear n0_ n1_ n2_ n3_ n4_ n5_ n6_ n7_ n8_ n9_; clear hb hbox hg; have hnb14 := NB461_448.out; have hnc14 := NB448_461.out; have hnb15 := NB461_452.out; have hnc15 := NB452_461.out; obtain ⟨hcz16_0, hcz16_1, hcz16_2, hcz16_3, hcz16_4, hcz16_5, hfz16_0, hfz16_1, hfz16_2, hfz16_3, hfz16_4, hfz16_5⟩ := zc6 BK461.out) | ((with_reducible refine gate_callee (f := 48) rfl ?_); refine goesL_ (some 13) rfl rfl Try.func48 ze rfl #[.slice A0 l0.length c0, .int .i64 10] rfl zg ?_; (with_reducible refine (spec_l1Size.calls _ _ l0 10 t462 _ ?side1 ?side2 A4.out).mono ?_); (case side1 => exact Kd.C_below HR0.out zb10); (case side2 => exact HC0.out); rintro e w' ⟨rfl, ⟨nd, rfl⟩⟩; refine ⟨_, rfl, ?_⟩) | ((with_reducible refine gate_callee (f := 47) rfl ?_); refine goesL_ (some 14) rfl rfl Try.func47 ze rfl #[.pointer (some ⟨g452, 0, none⟩), .int .i64 t462] rfl zg ?_; (with_reducible refine (spec_l1Below.calls g452 t449 t459 t460 t462 t463 t464 t465 w _ ?side1 ?side2 A5.out).mono ?_); (case side1 => exact zi4 HI452); (case side2 => exact zb10); rintro e w17 ⟨rfl, hi, hb, hk⟩; refine ⟨_, rfl, ?_⟩; refine zS4 (KeepBut.blk hk (g' := gb448) (o := .cells #[.int .i64 0, .int .i64 0, .int .i64 0, .int .i64 0, .int .i64 0, .int .i64 0] 28 (0, 0)) (zn3 BK448) NB448_452.out (by simp)) (KeepBut.blk hk (g' := gb461) (o := .cells #[.int .i64 t453, .int .i64 t454, .int .i64 t455, .int .i64 t456, .int .i64 t457, .int .i64 t458] 28 (0, 0)) (by (with_reducible repeat (first | apply zNn | apply zNd | apply zNa)); exact blk_put (blk_put (blk_put (blk_put (blk_put (blk_put (BK461.out) 0 _ rfl) 1 _ rfl) 2 _ rfl) 3 _ rfl) 4 _ rfl) 5 _ rfl) NB461_452.out (by simp)) (hb) (hi) ?_; clear BK448 BK461 HB HI452; intro BK448 BK461 HB HI452; (try clear hb); (try clear hb2); (try clear hk); (try clear hi)) | ((with_reducible refine gate_callee (f := 49) rfl ?_); refine goesL_ (some 17) rfl rfl Try.func49 ze rfl #[.pointer (some ⟨g452, 0, none⟩), .int .i64 30] rfl zg ?_; (with_reducible refine (spec_l1Once.calls g452 t449 t464 t465 30 true t467 t468 w _ ?side1 ?side2 A6.out).mono ?_); (case side1 => exact zi4 HI452); (case side2 => exact zb10); rintro e w18 ⟨rfl, hi, hb, hk⟩; refine ⟨_, rfl, ?_⟩; refine zS4 (KeepBut.blk hk (g' := gb448) (o := .cells #[.int .i64 0, .int .i64 0, .int .i64 0, .int .i64 0, .int .i64 0, .int .i64 0] 28 (0, 0)) (zn BK448) NB448_452.out (by simp)) (KeepBut.blk hk (g' := gb461) (o := .cells #[.int .i64 t453, .int .i64 t454, .int .i64 t455, .int .i64 t456, .int .i64 t457, .int .i64 t458] 28 (0, 0)) (zn BK461) NB461_452.out (by simp)) (hb) (hi) ?_; clear BK448 BK461 HB HI452; intro BK448 BK461 HB HI452; (try clear hb); (try clear hb2); (try clear hk); (try clear hi)) | ((with_reducible refine gate_dst (N := 19) rfl ?_); refine Kd.R_lit (Kd.int .i64) _ 3 ?hg (N := 19) ?hd (xs := ([0, 40, 41] : List Int)) (inner := [.int .i64 0, .int .i64 40, .int .i64 41]) (ok := fun _ => True) (okp := fun _ => True) ?hr ?hp (fun _ hk => hk) trivial (Below.refl _ _) (Nat.le_refl _) (by simp) ?_; (case hd | hg => rfl); (case hr => exact zh); (case hp => exact (Reps.one (show Kd.M (Kd.int .i64) _ _ _ 0 [.int .i64 0] from rfl) (Reps.one (show Kd.M (Kd.int .i64) _ _ _ 40 [.int .i64 40] from rfl) (Reps.one (show Kd.M (Kd.int .i64) _ _ _ 41 [.int .i64 41] from rfl) (Reps.none _ _))))); intro v470 w19 ho20 hb hg_ hnew_; clear hg_ hnew_; (first | rw [← Ny469.out] at ho20 | simp only [Int.reduceToNat, ← Ny469.out] at ho20); refine zS5 (Kd.R_lower ho20 (below_size zb10)) (zNb (g := gb448) (o := .cells #[.int .i64 0, .int .i64 0, .int .i64 0, .int .i64 0, .int .i64 0, .int .i64 0] 28 (0, 0)) (zn BK448) hb) (IsS99.below (zi4 HI452) hb) (zNb (g := gb461) (o := .cells #[.int .i64 t453, .int .i64 t454, .int .i64 t455, .int .i64 t456, .int .i64 t457, .int .i64 t458] 28 (0, 0)) (zn BK461) hb) (below_step zb10 hb) ?_; clear BK448 HI452 BK461 HB; intro HO471 BK448 HI452 BK461 HB; clear hb ho20; obtain ⟨Ao21, co21, eo21⟩ := Kd.R_slice HO471.out; subst eo21) | ((with_reducible refine gate_callee (f := 50) rfl ?_); refine goesL_ (some 20) rfl rfl Try.func50 ze rfl #[.pointer (some ⟨g452, 0, none⟩), .slice Ao21 y469.length co21] rfl zg ?_; (with_reducible refine (spec_l1PickInt.calls g452 t449 t467 t468 _ _ y469 t472 t473 t474 w _ ?side1 ?side2 ?side3 ?side4 ?side5 A8.out).mono ?_); (case side1 => exact zi4 HI452); (case side2 => exact zb10); (case side3 => exact zc (Kd.R_reads' HO471.out).2.2); (case side4 => exact (Kd.R_reads' HO471.out).2.1); (case side5 => exact far_slice (IsS99.own_ne HI452.out HO471.out (by decide))); rintro e w22 ⟨rfl, hi, hb, hk⟩; refine ⟨_, rfl, ?_⟩; refine zS5 (KeepBut.blk hk (g' := gb448) (o := .cells #[.int .i64 0, .int .i64 0, .int .i64 0, .int .i64 0, .int .i64 0, .int .i64 0] 28 (0, 0)) (zn BK448) NB448_452.out (by simp)) (KeepBut.blk hk (g' := gb461) (o := .cells #[.int .i64 t453, .int .i64 t454, .int .i64 t455, .int .i64 t456, .int .i64 t457, .int .i64 t458] 28 (0, 0)) (zn BK461) NB461_452.out (by simp)) (Kd.R_mono (Kd.R_keep (IsS99.apart (show IsS99 w _ g452 t449 t467 t468 from zi4 HI452) (zr HO471) (by decide)) hk (fun _ h => h.2)) (fun _ h => h.1)) (hb) (hi) ?_; clear BK448 BK461 HO471 HB HI452; intro BK448 BK461 HO471 HB HI452; (try clear hb); (try clear hb2); (try clear hk); (try clear hi)))
 refine zS5 (zRd HO471.out) (zNd BK448.out) (zNd BK461.out) (IsS99.drew HI452.out) (zBd HB.out) ?_
 clear HO471 BK448 BK461 HI452 HB
 intro HO471 BK448 BK461 HI452 HB
 refine start_ (n := 6) (S := fun w' => w'.cell? ⟨gb461, 0, none⟩ = some (.int .i64 t453) ∧ w'.cell? ⟨gb461, 1, none⟩ = some (.int .i64 t454) ∧ w'.cell? ⟨gb461, 2, none⟩ = some (.int .i64 t455) ∧ w'.cell? ⟨gb461, 3, none⟩ = some (.int .i64 t456) ∧ w'.cell? ⟨gb461, 4, none⟩ = some (.int .i64 t457) ∧ w'.cell? ⟨gb461, 5, none⟩ = some (.int .i64 t458)) (ds := []) #[zf,zf,zf,zf,zf,zf] ze rfl rfl ⟨(blk_cell BK461.out 0).trans rfl, (blk_cell BK461.out 1).trans rfl, (blk_cell BK461.out 2).trans rfl, (blk_cell BK461.out 3).trans rfl, (blk_cell BK461.out 4).trans rfl, (blk_cell BK461.out 5).trans rfl⟩ (fun hHeld => ?_)
 generalize w22.drew = w23 at HO471 BK448 BK461 HI452 HB hHeld ⊢
 refine pure_ (i := 1) (N := some 22) #[zf,zt,zf,zf,zf,zf] rfl rfl ze (fun _ _ _ h => h) (Or.inl ⟨by rfl, zv⟩) za ?_
 refine pure_ (i := 2) (N := some 23) #[zf,zt,zt,zf,zf,zf] rfl rfl ze (fun _ _ _ h => h) (Or.inl ⟨by rfl, zv⟩) za ?_
 refine take_ (i := 0) (N := some 21) #[zt,zt,zt,zf,zf,zf] rfl rfl ze (fun _ _ _ h => h) (Or.inl ⟨by rfl, zv6⟩) hHeld za ?_
 refine one_ (i := 3) (N := some 24) #[zt,zt,zt,zt,zf,zf] rfl rfl ze (by decide) (fun K hK => ?_)
 refine goes_ Try.func51 ze rfl #[.pointer (some ⟨g452, 0, none⟩), .int .i64 t472] (by rfl) rfl rfl zg ?_
 with_reducible refine (spec_l14DrawBytes.calls k g452 t449 t473 t474 t472 t475 t478 t479 w _ ?side1 ?side2 A9.out).mono ?_
 (case side1 => exact zi4 HI452)
 (case side2 => exact zb10)
 rintro e w24 ⟨v476, rfl, ho0, hi, hb, hk⟩
 refine ⟨_, rfl, ?_⟩
 refine zS6 (KeepBut.blk hk (g' := gb448) (o := .cells #[.int .i64 0, .int .i64 0, .int .i64 0, .int .i64 0, .int .i64 0, .int .i64 0] 28 (0, 0)) (zn BK448) NB448_452.out (by simp)) (KeepBut.blk hk (g' := gb461) (o := .cells #[.int .i64 t453, .int .i64 t454, .int .i64 t455, .int .i64 t456, .int .i64 t457, .int .i64 t458] 28 (0, 0)) (zn BK461) NB461_452.out (by simp)) (Kd.R_mono (Kd.R_keep (IsS99.apart (show IsS99 w _ g452 t449 t473 t474 from zi4 HI452) (zr HO471) (by decide)) hk (fun _ h => h.2)) (fun _ h => h.1)) (Kd.R_lower ho0 (below_size zb10)) (hb) (hi) ?_
 clear BK448 BK461 HO471 HB HI452
 intro BK448 BK461 HO471 HO477 HB HI452
 (try clear hb)
 (try clear hb2)
 (try clear hk)
 (try clear hi)
 (try clear ho0)
 refine hK.out _ _ ⟨(blk_cell BK461.out 0).trans rfl, (blk_cell BK461.out 1).trans rfl, (blk_cell BK461.out 2).trans rfl, (blk_cell BK461.out 3).trans rfl, (blk_cell BK461.out 4).trans rfl, (blk_cell BK461.out 5).trans rfl⟩ (fun hHeld => ?_)
 clear hK K
 refine norm_ (a' := ?_) ?_ ?_
 rotate_left
 ·show Act.put _ (some 24) _ = _
  simp only [Act.put, zS1, zS2, zS3, i64_w, i32_w]
  rfl
 refine one_ (i := 4) (N := none) #[zt,zt,zt,zt,zt,zf] rfl rfl ze (by decide) (fun K hK => ?_)
 have hs25 : w24.cell? ⟨gb448, 0, none⟩ = some (.int .i64 0) := (blk_cell BK448.out 0).trans rfl
 have hfs25 := blk_frozen BK448.out 0
 have hns25_1 := NB461_448.out
 have hms25_1 := NB448_461.out
 have hs26 : w24.cell? ⟨gb448, 1, none⟩ = some (.int .i64 0) := (blk_cell BK448.out 1).trans rfl
 have hfs26 := blk_frozen BK448.out 1
 have hns26_1 := NB461_448.out
 have hms26_1 := NB448_461.out
 have hs27 : w24.cell? ⟨gb448, 2, none⟩ = some (.int .i64 0) := (blk_cell BK448.out 2).trans rfl
 have hfs27 := blk_frozen BK448.out 2
 have hns27_1 := NB461_448.out
 have hms27_1 := NB448_461.out
 have hs28 : w24.cell? ⟨gb448, 3, none⟩ = some (.int .i64 0) := (blk_cell BK448.out 3).trans rfl
 have hfs28 := blk_frozen BK448.out 3
 have hns28_1 := NB461_448.out
 have hms28_1 := NB448_461.out
 have hs29 : w24.cell? ⟨gb448, 4, none⟩ = some (.int .i64 0) := (blk_cell BK448.out 4).trans rfl
 have hfs29 := blk_frozen BK448.out 4
 have hns29_1 := NB461_448.out
 have hms29_1 := NB448_461.out
 have hs30 : w24.cell? ⟨gb448, 5, none⟩ = some (.int .i64 0) := (blk_cell BK448.out 5).trans rfl
 have hfs30 := blk_frozen BK448.out 5
 have hns30_1 := NB461_448.out
 have hms30_1 := NB448_461.out
 refine skip_ (w1 := ?_) (by rfl) rfl ?_ ?_
 rotate_left
 ·go_simp
  rfl
 refine hK.out _ _ ⟨((cell_far (p := ⟨gb448, _, none⟩) NB461_448.out _).trans (((cell_far (p := ⟨gb448, _, none⟩) NB461_448.out _).trans (((cell_far (p := ⟨gb448, _, none⟩) NB461_448.out _).trans (((cell_far (p := ⟨gb448, _, none⟩) NB461_448.out _).trans (((cell_far (p := ⟨gb448, _, none⟩) NB461_448.out _).trans (((cell_far (p := ⟨gb448, _, none⟩) NB461_448.out _).trans (hHeld.1)))))))))))), ((cell_far (p := ⟨gb448, _, none⟩) NB461_448.out _).trans (((cell_far (p := ⟨gb448, _, none⟩) NB461_448.out _).trans (((cell_far (p := ⟨gb448, _, none⟩) NB461_448.out _).trans (((cell_far (p := ⟨gb448, _, none⟩) NB461_448.out _).trans (((cell_far (p := ⟨gb448, _, none⟩) NB461_448.out _).trans (((cell_far (p := ⟨gb448, _, none⟩) NB461_448.out _).trans (hHeld.2.1)))))))))))), ((cell_far (p := ⟨gb448, _, none⟩) NB461_448.out _).trans (((cell_far (p := ⟨gb448, _, none⟩) NB461_448.out _).trans (((cell_far (p := ⟨gb448, _, none⟩) NB461_448.out _).trans (((cell_far (p := ⟨gb448, _, none⟩) NB461_448.out _).trans (((cell_far (p := ⟨gb448, _, none⟩) NB461_448.out _).trans (((cell_far (p := ⟨gb448, _, none⟩) NB461_448.out _).trans (hHeld.2.2.1)))))))))))), ((cell_far (p := ⟨gb448, _, none⟩) NB461_448.out _).trans (((cell_far (p := ⟨gb448, _, none⟩) NB461_448.out _).trans (((cell_far (p := ⟨gb448, _, none⟩) NB461_448.out _).trans (((cell_far (p := ⟨gb448, _, none⟩) NB461_448.out _).trans (((cell_far (p := ⟨gb448, _, none⟩) NB461_448.out _).trans (((cell_far (p := ⟨gb448, _, none⟩) NB461_448.out _).trans (hHeld.2.2.2.1)))))))))))), ((cell_far (p := ⟨gb448, _, none⟩) NB461_448.out _).trans (((cell_far (p := ⟨gb448, _, none⟩) NB461_448.out _).trans (((cell_far (p := ⟨gb448, _, none⟩) NB461_448.out _).trans (((cell_far (p := ⟨gb448, _, none⟩) NB461_448.out _).trans (((cell_far (p := ⟨gb448, _, none⟩) NB461_448.out _).trans (((cell_far (p := ⟨gb448, _, none⟩) NB461_448.out _).trans (hHeld.2.2.2.2.1)))))))))))), ((cell_far (p := ⟨gb448, _, none⟩) NB461_448.out _).trans (((cell_far (p := ⟨gb448, _, none⟩) NB461_448.out _).trans (((cell_far (p := ⟨gb448, _, none⟩) NB461_448.out _).trans (((cell_far (p := ⟨gb448, _, none⟩) NB461_448.out _).trans (((cell_far (p := ⟨gb448, _, none⟩) NB461_448.out _).trans (((cell_far (p := ⟨gb448, _, none⟩) NB461_448.out _).trans (hHeld.2.2.2.2.2))))))))))))⟩ (fun hHeld => ?_)
 clear hK K
 refine pure_ (i := 5) (N := some 3) #[zt,zt,zt,zt,zt,zt] rfl rfl ze (fun _ _ _ h => h) (Or.inl ⟨by rfl, zv⟩) za ?_
 refine done_ ze ?_
 try go_wp2
 refine bodyPost_ret (results_ct rfl _ _ gb448 28 #[.int .i64 t453, .int .i64 t454, .int .i64 t455, .int .i64 t456, .int .i64 t457, .int .i64 t458] (0, 0) _ rfl (by (with_reducible repeat (first | apply zNn | apply zNd | apply zNa)); exact blk_put (blk_put (blk_put (blk_put (blk_put (blk_put (BK448.out) 0 _ rfl) 1 _ rfl) 2 _ rfl) 3 _ rfl) 4 _ rfl) 5 _ rfl) Try.underlying28 rfl ze) rfl ?_
 exact ⟨_, zq, by (with_reducible repeat (first | apply zRa | apply zRn | apply zRd)); exact Kd.R_mono (Kd.R_far (p := ⟨gb448, 5, none⟩) (Kd.R_far (p := ⟨gb448, 4, none⟩) (Kd.R_far (p := ⟨gb448, 3, none⟩) (Kd.R_far (p := ⟨gb448, 2, none⟩) (Kd.R_far (p := ⟨gb448, 1, none⟩) (Kd.R_far (p := ⟨gb448, 0, none⟩) (Kd.R_types HO477.out BK448.out (by decide)) (fun _ hk => hk.2) (.int .i64 t453)) (fun _ hk => hk.2) (.int .i64 t454)) (fun _ hk => hk.2) (.int .i64 t455)) (fun _ hk => hk.2) (.int .i64 t456)) (fun _ hk => hk.2) (.int .i64 t457)) (fun _ hk => hk.2) (.int .i64 t458)) (fun _ hk => trivial), zb10⟩
-- NOT PRINTED: function 54 (impl_Point_54)
-- NOT PRINTED: function 96 (impl_Point_96)
def impl_sample.f (a0 : Int) : Option (Bool) := if a0 ≥ (-1000000000) then (some (decide (a0 ≤ 1000000000))) else (some false)
theorem impl_sample.calls (a0 : Int) (r : Bool) (w : World) (H : impl_sample.f a0 = some r) :
 Calls Try.prog 104 #[.int .i64 a0] w fun e w' => e = .returned (.bool r) ∧ Drawn0 w w' := by
 unfold impl_sample.f at H
 replace H := zI2 H
 rcases H with ⟨c2, H⟩ | ⟨c2, H⟩
 case inl =>
  have c2b0 : decide ((-1000000000) ≤ a0) = true := zE c2
  clear c2
  obtain rfl := zI H
  go_enter Try.func104, Try.ntmps104
  go_wp2
  go_ret
  exact ⟨zs, zd⟩
 have c2b0 : decide ((-1000000000) ≤ a0) = false := decide_eq_false c2
 clear c2
 obtain rfl := zI H
 go_enter Try.func104, Try.ntmps104
 go_wp2
 go_ret
 exact ⟨zs, zd⟩
def impl_pointOk.f (a0_0 : Int) (a0_1 : Int) : Option (Bool) := (impl_sample.f a0_0).bind fun t486 => (if t486 = true then ((impl_sample.f a0_1).bind fun t487 => (some t487)) else (some false))
theorem impl_pointOk.calls (a0_0 : Int) (a0_1 : Int) (r : Bool) (w : World) (H : impl_pointOk.f a0_0 a0_1 = some r) :
 Calls Try.prog 98 #[.agg #[.int .i64 a0_0, .int .i64 a0_1]] w fun e w' => e = .returned (.bool r) ∧ Below w.heap.size w w' := by
 have hu52 := Try.underlying52
 have HB := zM (Below.refl w.heap.size w)
 unfold impl_pointOk.f at H
 replace H := zP H
 obtain ⟨t486, A2, H⟩ := H
 by_cases c3 : t486 = true
 case neg =>
  replace c3 := Bool.eq_false_iff.mpr c3
  subst c3
  rw [if_neg zFT] at H
  obtain rfl := zI H
  go_enter Try.func98, Try.ntmps98
  go_wp2_with (first | ((with_reducible refine gate_dst (N := 1) rfl ?_); refine box_event ?hg (N := 1) ?hd (cs := #[.int .i64 a0_0, .int .i64 a0_1]) (t := 52) ?hr ?_; (case hd | hg => rfl); (case hr => exact zh); intro gb485 hg w7 hbox hb; have n0_ := zM (below_step zb hb); have n1_ := zM (hbox); have n2_ := zM ((zw hg (below_size zb))); have n3_ := zM n2_.out; clear HB; have HB := n0_; have BK485 := n1_; have GW485 := n2_; have GE485 := n3_; clear n0_ n1_ n2_ n3_; clear hb hbox hg; obtain ⟨hcz8_0, hcz8_1, hfz8_0, hfz8_1⟩ := zc2 BK485.out) | ((with_reducible refine gate_callee (f := 104) rfl ?_); refine goesL_ (some 5) rfl rfl Try.func104 ze rfl #[.int .i64 a0_0] rfl zg ?_; (with_reducible refine (impl_sample.calls a0_0 false _ A2.out).mono ?_); rintro e w' ⟨rfl, ⟨nd, rfl⟩⟩; refine ⟨_, rfl, ?_⟩))
  go_ret
  exact ⟨zq, zb11⟩
 subst c3
 rw [if_pos rfl] at H
 replace H := zP H
 obtain ⟨t487, A4, H⟩ := H
 obtain rfl := zI H
 go_enter Try.func98, Try.ntmps98
 go_wp2_with (first | ((with_reducible refine gate_dst (N := 1) rfl ?_); refine box_event ?hg (N := 1) ?hd (cs := #[.int .i64 a0_0, .int .i64 a0_1]) (t := 52) ?hr ?_; (case hd | hg => rfl); (case hr => exact zh); intro gb485 hg w5 hbox hb; have n0_ := zM (below_step zb hb); have n1_ := zM (hbox); have n2_ := zM ((zw hg (below_size zb))); have n3_ := zM n2_.out; clear HB; have HB := n0_; have BK485 := n1_; have GW485 := n2_; have GE485 := n3_; clear n0_ n1_ n2_ n3_; clear hb hbox hg; obtain ⟨hcz6_0, hcz6_1, hfz6_0, hfz6_1⟩ := zc2 BK485.out) | ((with_reducible refine gate_callee (f := 104) rfl ?_); refine goesL_ (some 5) rfl rfl Try.func104 ze rfl #[.int .i64 a0_0] rfl zg ?_; (with_reducible refine (impl_sample.calls a0_0 true _ A2.out).mono ?_); rintro e w' ⟨rfl, ⟨nd, rfl⟩⟩; refine ⟨_, rfl, ?_⟩) | (go_at_call 104; (with_reducible refine (impl_sample.calls a0_1 t487 _ A4.out).mono ?_); rintro e w' ⟨rfl, ⟨nd, rfl⟩⟩))
 go_ret
 exact ⟨zq, zb11⟩
end Go.Proofs.Ytapobpkeefeajaa.PFnClean
