-- Written by a turned copy of the print (see the notes of this repo): plain functions and their walks. Lean checks it.
import Derived.Test.YtoggbgkpeigfmaaPFnScoredx0
import Derived.Test.YtoggbgkpeigfmaaPFnScoredx3
namespace Go.Proofs.Ytoggbgkpeigfmaa.PFnScored
open Go.RowKit Go.Proofs.YtoggbgkpeigfmaaW.PrintWords Go.Proofs.YtoggbgkpeigfmaaW.PrintLast Go.Proofs.YtoggbgkpeigfmaaW.PrintMore
attribute [local go_sem] max2_int min2_int max_two min_two max_three min_three max_four min_four   -- for this text's walks alone
set_option linter.unusedVariables false
set_option linter.unusedSimpArgs false

/-! ### spec_l15Step: function 31 -/
def spec_l15Step.T14 : Bool × List (List Nat × List Nat) := (true, [([], []), ([], []), ([0, 1], [0, 1]), ([2], [2]), ([3], [3]), ([], []), ([], []), ([], []), ([6, 7], [6, 7]), ([8], [8]), ([9], [9]), ([10], [10]), ([11], [11]), ([5, 12], [5, 12]), ([4, 13], [4, 13]), ([], []), ([], []), ([], []), ([16, 17], [16, 17]), ([18, 9], [18]), ([19], [19]), ([20], [20]), ([21], [21]), ([15, 22], [15, 22]), ([14, 23], [14, 23]), ([], []), ([], []), ([], []), ([26, 27], [26, 27]), ([28], [28]), ([29], [29]), ([25, 30, 19], [25, 30]), ([24, 31], [24, 31]), ([], []), ([33, 32, 31, 0, 1, 2, 3, 4, 5, 6, 7, 8, 9, 10, 11, 12, 13, 14, 15, 16, 17, 18, 19, 20, 21, 22, 23, 24, 25, 26, 27, 28, 29, 30, 31, 32, 33], [32, 33])])
def spec_l15Step.B14 : List Nat := [0, 0, 3, 7, 15, 0, 0, 0, 192, 448, 960, 1984, 4032, 8160, 16383, 0, 0, 0, 196608, 459712, 984000, 2032576, 4129728, 8356800, 16777215, 0, 0, 0, 201326592, 469762048, 1006632960, 2114913216, 4294967295, 0, 17179869183]
theorem spec_l15Step.tab14 : rtab .any (opsOf Try.f31 14) = spec_l15Step.T14 := by kernel_rfl
theorem spec_l15Step.bits14 : waitsOk spec_l15Step.T14.2 spec_l15Step.B14 = true := by kernel_rfl
def spec_l15Step.T18 : Bool × List (List Nat × List Nat) := (true, [([], []), ([], []), ([0, 1], [0, 1]), ([2], [2]), ([3], [3]), ([4], [4]), ([5], [5]), ([6, 5], [5, 6]), ([5], [5]), ([5], [5]), ([8, 9, 5], [5, 8, 9]), ([10, 5], [5, 10]), ([11, 5], [5, 11]), ([7, 12, 5], [5, 7, 12]), ([5, 13], [5, 13]), ([14, 5], [14]), ([15], [15]), ([16, 15], [15, 16]), ([15], [15]), ([15], [15]), ([18, 19, 15], [15, 18, 19]), ([20, 15], [15, 20]), ([21, 15], [15, 21]), ([17, 22, 15], [15, 17, 22]), ([23, 15, 15], [15, 23]), ([24], [24]), ([25, 24], [24, 25]), ([24], [24]), ([24], [24]), ([27, 28, 24], [24, 27, 28]), ([29, 24], [24, 29]), ([30, 24], [24, 30]), ([26, 31, 24, 24], [24, 26, 31]), ([24, 32, 15], [15, 24, 32]), ([15, 33], [15, 33])])
def spec_l15Step.B18 : List Nat := [0, 0, 3, 7, 15, 31, 63, 127, 63, 63, 831, 1855, 3903, 8191, 16383, 32767, 65535, 131071, 65535, 65535, 851967, 1900543, 3997695, 8388607, 16777215, 33554431, 67108863, 33554431, 33554431, 436207615, 973078527, 2046820351, 4294967295, 8589934591, 17179869183]
theorem spec_l15Step.tab18 : rtab .any (opsOf Try.f31 18) = spec_l15Step.T18 := by kernel_rfl
theorem spec_l15Step.bits18 : waitsOk spec_l15Step.T18.2 spec_l15Step.B18 = true := by kernel_rfl
set_option maxHeartbeats 8000000 in
set_option maxRecDepth 100000 in
theorem spec_l15Step.r14 {Q : Exit → Act → World → Prop} (hQp : ∀ c (a a' : Act) w, a'.defers = a.defers → Q (.panic c) a w → Q (.panic c) a' w) {ops : Array Oper} (hops : opsOf Try.f31 14 = ops) (kj24 : Nat) (w wc : World) (A3 : Option Addr) (c3 : Nat) (l3 : List (S54)) (a1 a2 a4 a5 x17_2 x18_3 : Int) (Ao18 : Option Addr) (co18 : Nat) (x15_3 : List (S54)) (t117 t118 : Int) (y119 y123 : List Int) {T0 T6 T7 T8 T9 T10 T11 T12 T13 T14 T15 T16 T18 T20 T21 T22 T23 T24 T25 T26 T27 T28 T29 T30 T31 T32 T33 T34 T35 T36 T37 T38 T39 T40 T41 T42 T43 T44 T45 T46 T47 T48 T49 T50 T51 T52 T53 T54 T55 T56 T57 T58 T59 T60 T61 T62 T63 T64 T65 T66 T67 T68 T69 T70 T71 T72 T73 T74 T75 T76 T77 T78 T79 T80 T81 T82 T83 T84 T85 T86 T87 T88 T89 T90 T91 T92 T93 T94 T95 T96 T97 T98 T99 T100 T101 T102 T103 T104 T105 T106 T107 T108 T109 T110 T111 T112 T113 T114 T115 T116 T117 T118 T119 T120 T121 T122 T123 T124 T125 T126 T127 T128 T129 T130 T131 T132 T133 T134 T135 T136 T137 T138 T139 T140 T141 T142 T143 T144 T145 T146 T147 : Value} (HR3 : Aside0 (Kd.C k54 w A3 l3.length l3)) (HO_15 : Aside0 (Kd.S k54 54 wc w.heap.size (fun _ => True) (.slice Ao18 x15_3.length co18) x15_3)) (HB : Aside0 (Below w.heap.size w wc)) (A30 : Aside0 (spec_l14Ones.f kj24 (Go.bits .and .i64 (wrap64 ((wrap64 (2 * x17_2)) + x18_3)) a1) = some t117)) (A31 : Aside0 (spec_l14Ones.f kj24 (Go.bits .and .i64 (wrap64 ((wrap64 (2 * x17_2)) + x18_3)) a2) = some t118)) (Ny119 : Aside0 (y119 = ([] : List Int))) (LMc32 : Aside0 (y119.length + ((rd_T54 l3 x17_2).f2).length < 17592186044416)) (Ny123 : Aside0 (y123 = y119 ++ ((rd_T54 l3 x17_2).f2))) (c28b0 : decide (0 ≤ x17_2) = true) (c29b0 : decide (x17_2 < (l3.length : Int)) = true)
 (hK : ∀ (w2 : World) (gb : Nat) (Ao : Option Addr) (co : Nat) (v62 v63 v64 v65 v66 v67 v68 v69 v70 v71 v72 v73 v74 v75 v76 v77 v78 v79 v80 v81 v82 v83 v84 v85 v86 v87 v88 v89 v90 v91 v92 v93 v94 : Value), Aside0 (Kd.S k54 54 w2 w.heap.size (fun k_ => some k_ ≠ (.slice Ao y123.length co : Value).ownBlock ∧ k_ ≠ gb) (.slice Ao18 x15_3.length co18) x15_3) → Aside0 (Kd.R (Kd.int .i64) 3 w2 w.heap.size (fun _ => True) (.slice Ao y123.length co) y123) → Aside0 (w2.heap[gb]? = some (.cells #[.bool false, .int .i64 (wrap64 ((wrap64 (((rd_T54 l3 x17_2).f1) + (wrap64 (a4 * (wrap64 ((wrap64 (2 * (Int.tmod t117 2))) - 1)))))) + (wrap64 (a5 * (wrap64 ((wrap64 (2 * (Int.tmod t118 2))) - 1)))))), .slice Ao y123.length co] 54 (0, 0))) → Aside0 (Below w.heap.size w w2) → Aside0 (w.heap.size ≤ gb) → Aside0 (w.heap.size ≤ gb) → Q .normal { tmps := #[T0, .int .i64 a1, .int .i64 a2, .slice A3 l3.length c3, .int .i64 a4, .int .i64 a5, T6, T7, T8, T9, T10, T11, T12, T13, T14, T15, T16, .int .i64 x17_2, T18, .int .i64 (wrap64 ((wrap64 (2 * x17_2)) + x18_3)), .pointer (some ⟨gb, 0, none⟩), T21, T22, T23, T24, T25, T26, T27, T28, T29, T30, T31, T32, T33, T34, T35, T36, T37, T38, T39, T40, T41, T42, T43, T44, T45, T46, T47, T48, T49, T50, T51, T52, T53, T54, T55, T56, T57, T58, T59, T60, T61, v62, v63, v64, v65, v66, v67, v68, v69, v70, v71, v72, v73, v74, v75, v76, v77, v78, v79, v80, v81, v82, v83, v84, v85, v86, v87, v88, v89, v90, v91, v92, v93, v94, T95, T96, T97, T98, T99, T100, T101, T102, T103, T104, T105, T106, T107, T108, T109, T110, T111, T112, T113, T114, T115, T116, T117, T118, T119, T120, T121, T122, T123, T124, T125, T126, T127, T128, T129, T130, T131, T132, T133, T134, T135, T136, T137, T138, T139, T140, T141, T142, T143, T144, T145, T146, T147], defers := [] } w2) :
 (Code.region 14 ops true).wp Try.prog Q { tmps := #[T0, .int .i64 a1, .int .i64 a2, .slice A3 l3.length c3, .int .i64 a4, .int .i64 a5, T6, T7, T8, T9, T10, T11, T12, T13, T14, T15, T16, .int .i64 x17_2, T18, .int .i64 (wrap64 ((wrap64 (2 * x17_2)) + x18_3)), T20, T21, T22, T23, T24, T25, T26, T27, T28, T29, T30, T31, T32, T33, T34, T35, T36, T37, T38, T39, T40, T41, T42, T43, T44, T45, T46, T47, T48, T49, T50, T51, T52, T53, T54, T55, T56, T57, T58, T59, T60, T61, T62, T63, T64, T65, T66, T67, T68, T69, T70, T71, T72, T73, T74, T75, T76, T77, T78, T79, T80, T81, T82, T83, T84, T85, T86, T87, T88, T89, T90, T91, T92, T93, T94, T95, T96, T97, T98, T99, T100, T101, T102, T103, T104, T105, T106, T107, T108, T109, T110, T111, T112, T113, T114, T115, T116, T117, T118, T119, T120, T121, T122, T123, T124, T125, T126, T127, T128, T129, T130, T131, T132, T133, T134, T135, T136, T137, T138, T139, T140, T141, T142, T143, T144, T145, T146, T147], defers := [] } wc := by
 simp only [opsOf, Try.f31, opsIn, Option.bind_some, Option.getD_some, Nat.reduceBEq, Bool.false_eq_true, if_false, if_true] at hops
 subst hops
 have hu54 := Try.underlying54
 have n0_ := Aside0.mk (Kd.S_drew HO_15.out)
 have n1_ := Aside0.mk (zBd HB.out)
 clear HO_15
 clear HB
 have HO_15 := n0_
 have HB := n1_
 clear n0_ n1_
 have p116 : 0 ≤ (x17_2 : Int) := zT (by first | (with_reducible assumption) | assumption)
 have q116 : x17_2 < (l3.length : Int) := zT (by first | (with_reducible assumption) | assumption)
 obtain ⟨ad116, A116_2, c116_2, e116, hx116_0, hx116_1, hx116_2, hl116_2, hi116_2⟩ := at_T54 HR3.out x17_2 p116 q116
 have hw116_2 := hx116_2
 have hw116_1 := hx116_1
 have hw116_0 := hx116_0
 cases e116
 replace hx116_0 := (HB.out.cell (zW w _ hx116_0)).trans hx116_0
 replace hx116_1 := (HB.out.cell (zW w _ hx116_1)).trans hx116_1
 replace hx116_2 := (HB.out.cell (zW w _ hx116_2)).trans hx116_2
 have HR116_2 := Aside0.mk hi116_2
 have HC116_2 := Aside0.mk hl116_2
 clear hi116_2 hl116_2
 replace p116 := eq_true p116
 replace q116 := eq_true q116
 have p122 : 0 ≤ (x17_2 : Int) := zT (by first | (with_reducible assumption) | assumption)
 have q122 : x17_2 < (l3.length : Int) := zT (by first | (with_reducible assumption) | assumption)
 obtain ⟨ad122, A122_2, c122_2, e122, hx122_0, hx122_1, hx122_2, hl122_2, hi122_2⟩ := at_T54 HR3.out x17_2 p122 q122
 have hw122_2 := hx122_2
 have hw122_1 := hx122_1
 have hw122_0 := hx122_0
 obtain rfl : ad116 = ad122 := (by injection e122)
 replace hx122_0 := (HB.out.cell (zW w _ hx122_0)).trans hx122_0
 replace hx122_1 := (HB.out.cell (zW w _ hx122_1)).trans hx122_1
 replace hx122_2 := (HB.out.cell (zW w _ hx122_2)).trans hx122_2
 have HR122_2 := Aside0.mk hi122_2
 have HC122_2 := Aside0.mk hl122_2
 clear hi122_2 hl122_2
 replace p122 := eq_true p122
 replace q122 := eq_true q122
 have ea_ := Option.some.inj (hx116_2.symm.trans hx122_2)
 injection ea_ with ea_ en_ ec_
 subst ea_
 subst ec_
 clear en_
 refine start_ (n := 35) (S := fun w' => w'.cell? (ad116.add ((x17_2).toNat * 3)) = some (.bool ((rd_T54 l3 x17_2).f0)) ∧ w'.cell? ⟨(ad116.add ((x17_2).toNat * 3)).block, (ad116.add ((x17_2).toNat * 3)).off + 1, none⟩ = some (.int .i64 ((rd_T54 l3 x17_2).f1)) ∧ w'.cell? ⟨(ad116.add ((x17_2).toNat * 3)).block, (ad116.add ((x17_2).toNat * 3)).off + 2, none⟩ = some (.slice A116_2 ((rd_T54 l3 x17_2).f2).length c116_2) ∧ w'.cell? (ad116.add ((x17_2).toNat * 3)) = some (.bool ((rd_T54 l3 x17_2).f0)) ∧ w'.cell? ⟨(ad116.add ((x17_2).toNat * 3)).block, (ad116.add ((x17_2).toNat * 3)).off + 1, none⟩ = some (.int .i64 ((rd_T54 l3 x17_2).f1)) ∧ w'.cell? ⟨(ad116.add ((x17_2).toNat * 3)).block, (ad116.add ((x17_2).toNat * 3)).off + 2, none⟩ = some (.slice A116_2 ((rd_T54 l3 x17_2).f2).length c116_2)) (ds := []) #[false, false, false, false, false, false, false, false, false, false, false, false, false, false, false, false, false, false, false, false, false, false, false, false, false, false, false, false, false, false, false, false, false, false, false] (by kernel_rfl) rfl rfl ⟨((HB.out.cell (zW w _ hw116_0)).trans hw116_0), ((HB.out.cell (zW w _ hw116_1)).trans hw116_1), ((HB.out.cell (zW w _ hw116_2)).trans hw116_2), ((HB.out.cell (zW w _ hw122_0)).trans hw122_0), ((HB.out.cell (zW w _ hw122_1)).trans hw122_1), ((HB.out.cell (zW w _ hw122_2)).trans hw122_2)⟩ (fun hHeld => ?_); refine with_tabW spec_l15Step.tab14 spec_l15Step.bits14 (fun HT_ HW_ => ?_)
 generalize wc.drew = w44 at HO_15 HB HR116_2 HR122_2 hx116_0 hx116_1 hx116_2 hx122_0 hx122_1 hx122_2 hHeld ⊢
 refine pure_ (i := 0) (N := some 62) (v := ?_) (a' := ?_) #[true, false, false, false, false, false, false, false, false, false, false, false, false, false, false, false, false, false, false, false, false, false, false, false, false, false, false, false, false, false, false, false, false, false, false] rfl rfl (any_of HT_.out (by kernel_rfl)) (fun _ _ _ h => hQp _ _ _ _ (by rfl) h) (Or.inl ⟨by rfl, ?_⟩) ?_ ?_
 rotate_left
 ·intro w'
  go_simp
  with_reducible rfl
 rotate_left
 ·simp only [Act.put, List.setIfInBounds_toArray, List.set_cons_zero, List.set_cons_succ, i64_w, i32_w]
  rfl
 refine pure_ (i := 1) (N := some 63) (v := ?_) (a' := ?_) #[true, true, false, false, false, false, false, false, false, false, false, false, false, false, false, false, false, false, false, false, false, false, false, false, false, false, false, false, false, false, false, false, false, false, false] rfl rfl (any_of HT_.out (by kernel_rfl)) (fun _ _ _ h => hQp _ _ _ _ (by rfl) h) (Or.inl ⟨by rfl, ?_⟩) ?_ ?_
 rotate_left
 ·intro w'
  go_simp
  with_reducible rfl
 rotate_left
 ·simp only [Act.put, List.setIfInBounds_toArray, List.set_cons_zero, List.set_cons_succ, i64_w, i32_w]
  rfl
 refine pure_ (i := 2) (N := some 64) (v := ?_) (a' := ?_) #[true, true, true, false, false, false, false, false, false, false, false, false, false, false, false, false, false, false, false, false, false, false, false, false, false, false, false, false, false, false, false, false, false, false, false] rfl rfl (any_of HT_.out (by kernel_rfl)) (fun _ _ _ h => hQp _ _ _ _ (by rfl) h) (Or.inl ⟨by rfl, ?_⟩) ?_ ?_
 rotate_left
 ·intro w'
  go_simp
  with_reducible rfl
 rotate_left
 ·simp only [Act.put, List.setIfInBounds_toArray, List.set_cons_zero, List.set_cons_succ, i64_w, i32_w]
  rfl
 refine pure_ (i := 3) (N := some 65) (v := ?_) (a' := ?_) #[true, true, true, true, false, false, false, false, false, false, false, false, false, false, false, false, false, false, false, false, false, false, false, false, false, false, false, false, false, false, false, false, false, false, false] rfl rfl (any_of HT_.out (by kernel_rfl)) (fun _ _ _ h => hQp _ _ _ _ (by rfl) h) (Or.inl ⟨by rfl, ?_⟩) ?_ ?_
 rotate_left
 ·intro w'
  go_simp
  with_reducible rfl
 rotate_left
 ·simp only [Act.put, List.setIfInBounds_toArray, List.set_cons_zero, List.set_cons_succ, i64_w, i32_w]
  rfl
 refine pure_ (i := 5) (N := some 67) (v := ?_) (a' := ?_) #[true, true, true, true, false, true, false, false, false, false, false, false, false, false, false, false, false, false, false, false, false, false, false, false, false, false, false, false, false, false, false, false, false, false, false] rfl rfl (any_of HT_.out (by kernel_rfl)) (fun _ _ _ h => hQp _ _ _ _ (by rfl) h) (Or.inl ⟨by rfl, ?_⟩) ?_ ?_
 rotate_left
 ·intro w'
  go_simp
  with_reducible rfl
 rotate_left
 ·simp only [Act.put, List.setIfInBounds_toArray, List.set_cons_zero, List.set_cons_succ, i64_w, i32_w]
  rfl
 refine pure_ (i := 6) (N := some 68) (v := ?_) (a' := ?_) #[true, true, true, true, false, true, true, false, false, false, false, false, false, false, false, false, false, false, false, false, false, false, false, false, false, false, false, false, false, false, false, false, false, false, false] rfl rfl (any_of HT_.out (by kernel_rfl)) (fun _ _ _ h => hQp _ _ _ _ (by rfl) h) (Or.inl ⟨by rfl, ?_⟩) ?_ ?_
 rotate_left
 ·intro w'
  go_simp
  with_reducible rfl
 rotate_left
 ·simp only [Act.put, List.setIfInBounds_toArray, List.set_cons_zero, List.set_cons_succ, i64_w, i32_w]
  rfl
 refine pure_ (i := 7) (N := some 69) (v := ?_) (a' := ?_) #[true, true, true, true, false, true, true, true, false, false, false, false, false, false, false, false, false, false, false, false, false, false, false, false, false, false, false, false, false, false, false, false, false, false, false] rfl rfl (any_of HT_.out (by kernel_rfl)) (fun _ _ _ h => hQp _ _ _ _ (by rfl) h) (Or.inl ⟨by rfl, ?_⟩) ?_ ?_
 rotate_left
 ·intro w'
  go_simp
  with_reducible rfl
 rotate_left
 ·simp only [Act.put, List.setIfInBounds_toArray, List.set_cons_zero, List.set_cons_succ, i64_w, i32_w]
  rfl
 refine pure_ (i := 8) (N := some 70) (v := ?_) (a' := ?_) #[true, true, true, true, false, true, true, true, true, false, false, false, false, false, false, false, false, false, false, false, false, false, false, false, false, false, false, false, false, false, false, false, false, false, false] rfl rfl (any_of HT_.out (by kernel_rfl)) (fun _ _ _ h => hQp _ _ _ _ (by rfl) h) (Or.inl ⟨by rfl, ?_⟩) ?_ ?_
 rotate_left
 ·intro w'
  go_simp
  with_reducible rfl
 rotate_left
 ·simp only [Act.put, List.setIfInBounds_toArray, List.set_cons_zero, List.set_cons_succ, i64_w, i32_w]
  rfl
 refine pure_ (i := 15) (N := some 77) (v := ?_) (a' := ?_) #[true, true, true, true, false, true, true, true, true, false, false, false, false, false, false, true, false, false, false, false, false, false, false, false, false, false, false, false, false, false, false, false, false, false, false] rfl rfl (any_of HT_.out (by kernel_rfl)) (fun _ _ _ h => hQp _ _ _ _ (by rfl) h) (Or.inl ⟨by rfl, ?_⟩) ?_ ?_
 rotate_left
 ·intro w'
  go_simp
  with_reducible rfl
 rotate_left
 ·simp only [Act.put, List.setIfInBounds_toArray, List.set_cons_zero, List.set_cons_succ, i64_w, i32_w]
  rfl
 refine pure_ (i := 16) (N := some 78) (v := ?_) (a' := ?_) #[true, true, true, true, false, true, true, true, true, false, false, false, false, false, false, true, true, false, false, false, false, false, false, false, false, false, false, false, false, false, false, false, false, false, false] rfl rfl (any_of HT_.out (by kernel_rfl)) (fun _ _ _ h => hQp _ _ _ _ (by rfl) h) (Or.inl ⟨by rfl, ?_⟩) ?_ ?_
 rotate_left
 ·intro w'
  go_simp
  with_reducible rfl
 rotate_left
 ·simp only [Act.put, List.setIfInBounds_toArray, List.set_cons_zero, List.set_cons_succ, i64_w, i32_w]
  rfl
 refine pure_ (i := 17) (N := some 79) (v := ?_) (a' := ?_) #[true, true, true, true, false, true, true, true, true, false, false, false, false, false, false, true, true, true, false, false, false, false, false, false, false, false, false, false, false, false, false, false, false, false, false] rfl rfl (any_of HT_.out (by kernel_rfl)) (fun _ _ _ h => hQp _ _ _ _ (by rfl) h) (Or.inl ⟨by rfl, ?_⟩) ?_ ?_
 rotate_left
 ·intro w'
  go_simp
  with_reducible rfl
 rotate_left
 ·simp only [Act.put, List.setIfInBounds_toArray, List.set_cons_zero, List.set_cons_succ, i64_w, i32_w]
  rfl
 refine pure_ (i := 18) (N := some 80) (v := ?_) (a' := ?_) #[true, true, true, true, false, true, true, true, true, false, false, false, false, false, false, true, true, true, true, false, false, false, false, false, false, false, false, false, false, false, false, false, false, false, false] rfl rfl (any_of HT_.out (by kernel_rfl)) (fun _ _ _ h => hQp _ _ _ _ (by rfl) h) (Or.inl ⟨by rfl, ?_⟩) ?_ ?_
 rotate_left
 ·intro w'
  go_simp
  with_reducible rfl
 rotate_left
 ·simp only [Act.put, List.setIfInBounds_toArray, List.set_cons_zero, List.set_cons_succ, i64_w, i32_w]
  rfl
 refine pure_ (i := 26) (N := some 88) (v := ?_) (a' := ?_) #[true, true, true, true, false, true, true, true, true, false, false, false, false, false, false, true, true, true, true, false, false, false, false, false, false, false, true, false, false, false, false, false, false, false, false] rfl rfl (any_of HT_.out (by kernel_rfl)) (fun _ _ _ h => hQp _ _ _ _ (by rfl) h) (Or.inl ⟨by rfl, ?_⟩) ?_ ?_
 rotate_left
 ·intro w'
  go_simp
  with_reducible rfl
 rotate_left
 ·simp only [Act.put, List.setIfInBounds_toArray, List.set_cons_zero, List.set_cons_succ, i64_w, i32_w]
  rfl
 refine pure_ (i := 27) (N := some 89) (v := ?_) (a' := ?_) #[true, true, true, true, false, true, true, true, true, false, false, false, false, false, false, true, true, true, true, false, false, false, false, false, false, false, true, true, false, false, false, false, false, false, false] rfl rfl (any_of HT_.out (by kernel_rfl)) (fun _ _ _ h => hQp _ _ _ _ (by rfl) h) (Or.inl ⟨by rfl, ?_⟩) ?_ ?_
 rotate_left
 ·intro w'
  go_simp
  with_reducible rfl
 rotate_left
 ·simp only [Act.put, List.setIfInBounds_toArray, List.set_cons_zero, List.set_cons_succ, i64_w, i32_w]
  rfl
 refine pure_ (i := 28) (N := some 90) (v := ?_) (a' := ?_) #[true, true, true, true, false, true, true, true, true, false, false, false, false, false, false, true, true, true, true, false, false, false, false, false, false, false, true, true, true, false, false, false, false, false, false] rfl rfl (any_of HT_.out (by kernel_rfl)) (fun _ _ _ h => hQp _ _ _ _ (by rfl) h) (Or.inl ⟨by rfl, ?_⟩) ?_ ?_
 rotate_left
 ·intro w'
  go_simp
  with_reducible rfl
 rotate_left
 ·simp only [Act.put, List.setIfInBounds_toArray, List.set_cons_zero, List.set_cons_succ, i64_w, i32_w]
  rfl
 refine pure_ (i := 29) (N := some 91) (v := ?_) (a' := ?_) #[true, true, true, true, false, true, true, true, true, false, false, false, false, false, false, true, true, true, true, false, false, false, false, false, false, false, true, true, true, true, false, false, false, false, false] rfl rfl (any_of HT_.out (by kernel_rfl)) (fun _ _ _ h => hQp _ _ _ _ (by rfl) h) (Or.inl ⟨by rfl, ?_⟩) ?_ ?_
 rotate_left
 ·intro w'
  go_simp
  with_reducible rfl
 rotate_left
 ·simp only [Act.put, List.setIfInBounds_toArray, List.set_cons_zero, List.set_cons_succ, i64_w, i32_w]
  rfl
 refine take_ (i := 4) (N := some 66) (v := ?_) (a' := ?_) #[true, true, true, true, true, true, true, true, true, false, false, false, false, false, false, true, true, true, true, false, false, false, false, false, false, false, true, true, true, true, false, false, false, false, false] rfl rfl (take_ofW HT_.out HW_.out (by kernel_rfl)) (fun _ _ _ h => hQp _ _ _ _ (by rfl) h) (Or.inl ⟨by rfl, ?_⟩) hHeld ?_ ?_
 rotate_left
 ·rintro w' ⟨s0, s1, s2, s3, s4, s5⟩
  go_simp
  with_reducible rfl
 rotate_left
 ·simp only [Act.put, List.setIfInBounds_toArray, List.set_cons_zero, List.set_cons_succ, i64_w, i32_w]
  rfl
 refine take_ (i := 30) (N := some 92) (v := ?_) (a' := ?_) #[true, true, true, true, true, true, true, true, true, false, false, false, false, false, false, true, true, true, true, false, false, false, false, false, false, false, true, true, true, true, true, false, false, false, false] rfl rfl (take_ofW HT_.out HW_.out (by kernel_rfl)) (fun _ _ _ h => hQp _ _ _ _ (by rfl) h) (Or.inl ⟨by rfl, ?_⟩) hHeld ?_ ?_
 rotate_left
 ·rintro w' ⟨s0, s1, s2, s3, s4, s5⟩
  go_simp
  with_reducible rfl
 rotate_left
 ·simp only [Act.put, List.setIfInBounds_toArray, List.set_cons_zero, List.set_cons_succ, i64_w, i32_w]
  rfl
 refine join_ (σ := Value × Value × Nat) 1 #[true, true, true, true, true, true, true, true, true, true, true, true, true, true, true, true, true, true, true, true, true, true, true, true, true, true, true, true, true, true, true, true, true, true, false] (fun s_ => [(71, .int .i64 t117), (81, .int .i64 t118), (87, s_.1), (93, s_.2.1), (20, .pointer (some ⟨s_.2.2, 0, none⟩)), (72, .int .i64 (Int.tmod t117 2)), (73, .int .i64 (wrap64 (2 * (Int.tmod t117 2)))), (74, .int .i64 (wrap64 ((wrap64 (2 * (Int.tmod t117 2))) - 1))), (75, .int .i64 (wrap64 (a4 * (wrap64 ((wrap64 (2 * (Int.tmod t117 2))) - 1))))), (76, .int .i64 (wrap64 (((rd_T54 l3 x17_2).f1) + (wrap64 (a4 * (wrap64 ((wrap64 (2 * (Int.tmod t117 2))) - 1))))))), (82, .int .i64 (Int.tmod t118 2)), (83, .int .i64 (wrap64 (2 * (Int.tmod t118 2)))), (84, .int .i64 (wrap64 ((wrap64 (2 * (Int.tmod t118 2))) - 1))), (85, .int .i64 (wrap64 (a5 * (wrap64 ((wrap64 (2 * (Int.tmod t118 2))) - 1))))), (86, .int .i64 (wrap64 ((wrap64 (((rd_T54 l3 x17_2).f1) + (wrap64 (a4 * (wrap64 ((wrap64 (2 * (Int.tmod t117 2))) - 1)))))) + (wrap64 (a5 * (wrap64 ((wrap64 (2 * (Int.tmod t118 2))) - 1))))))), (94, .agg #[.bool false, .int .i64 (wrap64 ((wrap64 (((rd_T54 l3 x17_2).f1) + (wrap64 (a4 * (wrap64 ((wrap64 (2 * (Int.tmod t117 2))) - 1)))))) + (wrap64 (a5 * (wrap64 ((wrap64 (2 * (Int.tmod t118 2))) - 1)))))), s_.2.1])]) (fun s_ w' => (w'.cell? (ad116.add ((x17_2).toNat * 3)) = some (.bool ((rd_T54 l3 x17_2).f0)) ∧ w'.cell? ⟨(ad116.add ((x17_2).toNat * 3)).block, (ad116.add ((x17_2).toNat * 3)).off + 1, none⟩ = some (.int .i64 ((rd_T54 l3 x17_2).f1)) ∧ w'.cell? ⟨(ad116.add ((x17_2).toNat * 3)).block, (ad116.add ((x17_2).toNat * 3)).off + 2, none⟩ = some (.slice A116_2 ((rd_T54 l3 x17_2).f2).length c116_2) ∧ w'.cell? (ad116.add ((x17_2).toNat * 3)) = some (.bool ((rd_T54 l3 x17_2).f0)) ∧ w'.cell? ⟨(ad116.add ((x17_2).toNat * 3)).block, (ad116.add ((x17_2).toNat * 3)).off + 1, none⟩ = some (.int .i64 ((rd_T54 l3 x17_2).f1)) ∧ w'.cell? ⟨(ad116.add ((x17_2).toNat * 3)).block, (ad116.add ((x17_2).toNat * 3)).off + 2, none⟩ = some (.slice A116_2 ((rd_T54 l3 x17_2).f2).length c116_2)) ∧ (Kd.R (Kd.int .i64) 3 w' w.heap.size (fun _ => True) s_.2.1 y123) ∧ (Kd.S k54 54 w' w.heap.size (fun k_ => some k_ ≠ (s_.2.1 : Value).ownBlock ∧ k_ ≠ s_.2.2) (.slice Ao18 x15_3.length co18) x15_3) ∧ (w'.heap[s_.2.2]? = some (.cells #[.bool false, .int .i64 0, .slice none 0 0] 54 (0, 0))) ∧ (w.heap.size ≤ s_.2.2) ∧ (w.heap.size ≤ s_.2.2) ∧ (Below w.heap.size w w')) ?_ ?_
 rotate_left
 ·intro hJ9_19_25_31_33
  refine join_ (σ := Value × Value) 2 #[true, true, true, true, true, true, true, true, true, true, true, true, true, true, true, true, true, true, true, true, true, true, true, true, true, true, true, true, true, true, true, true, true, false, false] (fun s_ => [(71, .int .i64 t117), (81, .int .i64 t118), (87, s_.1), (93, s_.2), (72, .int .i64 (Int.tmod t117 2)), (73, .int .i64 (wrap64 (2 * (Int.tmod t117 2)))), (74, .int .i64 (wrap64 ((wrap64 (2 * (Int.tmod t117 2))) - 1))), (75, .int .i64 (wrap64 (a4 * (wrap64 ((wrap64 (2 * (Int.tmod t117 2))) - 1))))), (76, .int .i64 (wrap64 (((rd_T54 l3 x17_2).f1) + (wrap64 (a4 * (wrap64 ((wrap64 (2 * (Int.tmod t117 2))) - 1))))))), (82, .int .i64 (Int.tmod t118 2)), (83, .int .i64 (wrap64 (2 * (Int.tmod t118 2)))), (84, .int .i64 (wrap64 ((wrap64 (2 * (Int.tmod t118 2))) - 1))), (85, .int .i64 (wrap64 (a5 * (wrap64 ((wrap64 (2 * (Int.tmod t118 2))) - 1))))), (86, .int .i64 (wrap64 ((wrap64 (((rd_T54 l3 x17_2).f1) + (wrap64 (a4 * (wrap64 ((wrap64 (2 * (Int.tmod t117 2))) - 1)))))) + (wrap64 (a5 * (wrap64 ((wrap64 (2 * (Int.tmod t118 2))) - 1))))))), (94, .agg #[.bool false, .int .i64 (wrap64 ((wrap64 (((rd_T54 l3 x17_2).f1) + (wrap64 (a4 * (wrap64 ((wrap64 (2 * (Int.tmod t117 2))) - 1)))))) + (wrap64 (a5 * (wrap64 ((wrap64 (2 * (Int.tmod t118 2))) - 1)))))), s_.2])]) (fun s_ w' => (w'.cell? (ad116.add ((x17_2).toNat * 3)) = some (.bool ((rd_T54 l3 x17_2).f0)) ∧ w'.cell? ⟨(ad116.add ((x17_2).toNat * 3)).block, (ad116.add ((x17_2).toNat * 3)).off + 1, none⟩ = some (.int .i64 ((rd_T54 l3 x17_2).f1)) ∧ w'.cell? ⟨(ad116.add ((x17_2).toNat * 3)).block, (ad116.add ((x17_2).toNat * 3)).off + 2, none⟩ = some (.slice A116_2 ((rd_T54 l3 x17_2).f2).length c116_2) ∧ w'.cell? (ad116.add ((x17_2).toNat * 3)) = some (.bool ((rd_T54 l3 x17_2).f0)) ∧ w'.cell? ⟨(ad116.add ((x17_2).toNat * 3)).block, (ad116.add ((x17_2).toNat * 3)).off + 1, none⟩ = some (.int .i64 ((rd_T54 l3 x17_2).f1)) ∧ w'.cell? ⟨(ad116.add ((x17_2).toNat * 3)).block, (ad116.add ((x17_2).toNat * 3)).off + 2, none⟩ = some (.slice A116_2 ((rd_T54 l3 x17_2).f2).length c116_2)) ∧ (Kd.R (Kd.int .i64) 3 w' w.heap.size (fun _ => True) s_.2 y123) ∧ (Kd.S k54 54 w' w.heap.size (fun k_ => some k_ ≠ (s_.2 : Value).ownBlock) (.slice Ao18 x15_3.length co18) x15_3) ∧ (Below w.heap.size w w')) ?_ ?_
  rotate_left
  ·intro hJ9_19_25_31
   refine join_ (σ := Value × Nat) 3 #[true, true, true, true, true, true, true, true, true, true, true, true, true, true, true, true, true, true, true, true, true, true, true, true, true, true, true, true, true, true, true, false, false, true, false] (fun s_ => [(71, .int .i64 t117), (81, .int .i64 t118), (87, s_.1), (20, .pointer (some ⟨s_.2, 0, none⟩)), (72, .int .i64 (Int.tmod t117 2)), (73, .int .i64 (wrap64 (2 * (Int.tmod t117 2)))), (74, .int .i64 (wrap64 ((wrap64 (2 * (Int.tmod t117 2))) - 1))), (75, .int .i64 (wrap64 (a4 * (wrap64 ((wrap64 (2 * (Int.tmod t117 2))) - 1))))), (76, .int .i64 (wrap64 (((rd_T54 l3 x17_2).f1) + (wrap64 (a4 * (wrap64 ((wrap64 (2 * (Int.tmod t117 2))) - 1))))))), (82, .int .i64 (Int.tmod t118 2)), (83, .int .i64 (wrap64 (2 * (Int.tmod t118 2)))), (84, .int .i64 (wrap64 ((wrap64 (2 * (Int.tmod t118 2))) - 1))), (85, .int .i64 (wrap64 (a5 * (wrap64 ((wrap64 (2 * (Int.tmod t118 2))) - 1))))), (86, .int .i64 (wrap64 ((wrap64 (((rd_T54 l3 x17_2).f1) + (wrap64 (a4 * (wrap64 ((wrap64 (2 * (Int.tmod t117 2))) - 1)))))) + (wrap64 (a5 * (wrap64 ((wrap64 (2 * (Int.tmod t118 2))) - 1)))))))]) (fun s_ w' => (w'.cell? (ad116.add ((x17_2).toNat * 3)) = some (.bool ((rd_T54 l3 x17_2).f0)) ∧ w'.cell? ⟨(ad116.add ((x17_2).toNat * 3)).block, (ad116.add ((x17_2).toNat * 3)).off + 1, none⟩ = some (.int .i64 ((rd_T54 l3 x17_2).f1)) ∧ w'.cell? ⟨(ad116.add ((x17_2).toNat * 3)).block, (ad116.add ((x17_2).toNat * 3)).off + 2, none⟩ = some (.slice A116_2 ((rd_T54 l3 x17_2).f2).length c116_2) ∧ w'.cell? (ad116.add ((x17_2).toNat * 3)) = some (.bool ((rd_T54 l3 x17_2).f0)) ∧ w'.cell? ⟨(ad116.add ((x17_2).toNat * 3)).block, (ad116.add ((x17_2).toNat * 3)).off + 1, none⟩ = some (.int .i64 ((rd_T54 l3 x17_2).f1)) ∧ w'.cell? ⟨(ad116.add ((x17_2).toNat * 3)).block, (ad116.add ((x17_2).toNat * 3)).off + 2, none⟩ = some (.slice A116_2 ((rd_T54 l3 x17_2).f2).length c116_2)) ∧ (Kd.R (Kd.int .i64) 3 w' w.heap.size (fun _ => True) s_.1 y119) ∧ (Kd.S k54 54 w' w.heap.size (fun k_ => some k_ ≠ (s_.1 : Value).ownBlock ∧ k_ ≠ s_.2) (.slice Ao18 x15_3.length co18) x15_3) ∧ (w'.heap[s_.2]? = some (.cells #[.bool false, .int .i64 0, .slice none 0 0] 54 (0, 0))) ∧ (w.heap.size ≤ s_.2) ∧ (w.heap.size ≤ s_.2) ∧ (Below w.heap.size w w')) ?_ ?_
   rotate_left
   ·intro hJ9_19_25_33
    refine join_ (σ := Value) 4 #[true, true, true, true, true, true, true, true, true, true, true, true, true, true, true, true, true, true, true, true, true, true, true, true, true, true, true, true, true, true, true, false, false, false, false] (fun s_ => [(71, .int .i64 t117), (81, .int .i64 t118), (87, s_), (72, .int .i64 (Int.tmod t117 2)), (73, .int .i64 (wrap64 (2 * (Int.tmod t117 2)))), (74, .int .i64 (wrap64 ((wrap64 (2 * (Int.tmod t117 2))) - 1))), (75, .int .i64 (wrap64 (a4 * (wrap64 ((wrap64 (2 * (Int.tmod t117 2))) - 1))))), (76, .int .i64 (wrap64 (((rd_T54 l3 x17_2).f1) + (wrap64 (a4 * (wrap64 ((wrap64 (2 * (Int.tmod t117 2))) - 1))))))), (82, .int .i64 (Int.tmod t118 2)), (83, .int .i64 (wrap64 (2 * (Int.tmod t118 2)))), (84, .int .i64 (wrap64 ((wrap64 (2 * (Int.tmod t118 2))) - 1))), (85, .int .i64 (wrap64 (a5 * (wrap64 ((wrap64 (2 * (Int.tmod t118 2))) - 1))))), (86, .int .i64 (wrap64 ((wrap64 (((rd_T54 l3 x17_2).f1) + (wrap64 (a4 * (wrap64 ((wrap64 (2 * (Int.tmod t117 2))) - 1)))))) + (wrap64 (a5 * (wrap64 ((wrap64 (2 * (Int.tmod t118 2))) - 1)))))))]) (fun s_ w' => (w'.cell? (ad116.add ((x17_2).toNat * 3)) = some (.bool ((rd_T54 l3 x17_2).f0)) ∧ w'.cell? ⟨(ad116.add ((x17_2).toNat * 3)).block, (ad116.add ((x17_2).toNat * 3)).off + 1, none⟩ = some (.int .i64 ((rd_T54 l3 x17_2).f1)) ∧ w'.cell? ⟨(ad116.add ((x17_2).toNat * 3)).block, (ad116.add ((x17_2).toNat * 3)).off + 2, none⟩ = some (.slice A116_2 ((rd_T54 l3 x17_2).f2).length c116_2) ∧ w'.cell? (ad116.add ((x17_2).toNat * 3)) = some (.bool ((rd_T54 l3 x17_2).f0)) ∧ w'.cell? ⟨(ad116.add ((x17_2).toNat * 3)).block, (ad116.add ((x17_2).toNat * 3)).off + 1, none⟩ = some (.int .i64 ((rd_T54 l3 x17_2).f1)) ∧ w'.cell? ⟨(ad116.add ((x17_2).toNat * 3)).block, (ad116.add ((x17_2).toNat * 3)).off + 2, none⟩ = some (.slice A116_2 ((rd_T54 l3 x17_2).f2).length c116_2)) ∧ (Kd.R (Kd.int .i64) 3 w' w.heap.size (fun _ => True) s_ y119) ∧ (Kd.S k54 54 w' w.heap.size (fun k_ => some k_ ≠ (s_ : Value).ownBlock) (.slice Ao18 x15_3.length co18) x15_3) ∧ (Below w.heap.size w w')) ?_ ?_
    rotate_left
    ·intro hJ9_19_25
     refine join_ (σ := Nat) 4 #[true, true, true, true, true, true, true, true, true, true, true, true, true, true, true, true, true, true, true, true, true, true, true, true, true, false, true, true, true, true, true, false, false, true, false] (fun s_ => [(71, .int .i64 t117), (81, .int .i64 t118), (20, .pointer (some ⟨s_, 0, none⟩)), (72, .int .i64 (Int.tmod t117 2)), (73, .int .i64 (wrap64 (2 * (Int.tmod t117 2)))), (74, .int .i64 (wrap64 ((wrap64 (2 * (Int.tmod t117 2))) - 1))), (75, .int .i64 (wrap64 (a4 * (wrap64 ((wrap64 (2 * (Int.tmod t117 2))) - 1))))), (76, .int .i64 (wrap64 (((rd_T54 l3 x17_2).f1) + (wrap64 (a4 * (wrap64 ((wrap64 (2 * (Int.tmod t117 2))) - 1))))))), (82, .int .i64 (Int.tmod t118 2)), (83, .int .i64 (wrap64 (2 * (Int.tmod t118 2)))), (84, .int .i64 (wrap64 ((wrap64 (2 * (Int.tmod t118 2))) - 1))), (85, .int .i64 (wrap64 (a5 * (wrap64 ((wrap64 (2 * (Int.tmod t118 2))) - 1))))), (86, .int .i64 (wrap64 ((wrap64 (((rd_T54 l3 x17_2).f1) + (wrap64 (a4 * (wrap64 ((wrap64 (2 * (Int.tmod t117 2))) - 1)))))) + (wrap64 (a5 * (wrap64 ((wrap64 (2 * (Int.tmod t118 2))) - 1)))))))]) (fun s_ w' => (w'.cell? (ad116.add ((x17_2).toNat * 3)) = some (.bool ((rd_T54 l3 x17_2).f0)) ∧ w'.cell? ⟨(ad116.add ((x17_2).toNat * 3)).block, (ad116.add ((x17_2).toNat * 3)).off + 1, none⟩ = some (.int .i64 ((rd_T54 l3 x17_2).f1)) ∧ w'.cell? ⟨(ad116.add ((x17_2).toNat * 3)).block, (ad116.add ((x17_2).toNat * 3)).off + 2, none⟩ = some (.slice A116_2 ((rd_T54 l3 x17_2).f2).length c116_2) ∧ w'.cell? (ad116.add ((x17_2).toNat * 3)) = some (.bool ((rd_T54 l3 x17_2).f0)) ∧ w'.cell? ⟨(ad116.add ((x17_2).toNat * 3)).block, (ad116.add ((x17_2).toNat * 3)).off + 1, none⟩ = some (.int .i64 ((rd_T54 l3 x17_2).f1)) ∧ w'.cell? ⟨(ad116.add ((x17_2).toNat * 3)).block, (ad116.add ((x17_2).toNat * 3)).off + 2, none⟩ = some (.slice A116_2 ((rd_T54 l3 x17_2).f2).length c116_2)) ∧ (Kd.S k54 54 w' w.heap.size (fun k_ => k_ ≠ s_) (.slice Ao18 x15_3.length co18) x15_3) ∧ (w'.heap[s_]? = some (.cells #[.bool false, .int .i64 0, .slice none 0 0] 54 (0, 0))) ∧ (w.heap.size ≤ s_) ∧ (w.heap.size ≤ s_) ∧ (Below w.heap.size w w')) ?_ ?_
     rotate_left
     ·intro hJ9_19_33
      refine join_ (σ := Value × Nat) 9 #[true, true, true, true, true, true, true, true, true, true, true, true, true, true, true, true, true, true, true, false, false, false, false, false, false, true, true, true, true, true, true, false, false, true, false] (fun s_ => [(71, .int .i64 t117), (87, s_.1), (20, .pointer (some ⟨s_.2, 0, none⟩)), (72, .int .i64 (Int.tmod t117 2)), (73, .int .i64 (wrap64 (2 * (Int.tmod t117 2)))), (74, .int .i64 (wrap64 ((wrap64 (2 * (Int.tmod t117 2))) - 1))), (75, .int .i64 (wrap64 (a4 * (wrap64 ((wrap64 (2 * (Int.tmod t117 2))) - 1))))), (76, .int .i64 (wrap64 (((rd_T54 l3 x17_2).f1) + (wrap64 (a4 * (wrap64 ((wrap64 (2 * (Int.tmod t117 2))) - 1)))))))]) (fun s_ w' => (w'.cell? (ad116.add ((x17_2).toNat * 3)) = some (.bool ((rd_T54 l3 x17_2).f0)) ∧ w'.cell? ⟨(ad116.add ((x17_2).toNat * 3)).block, (ad116.add ((x17_2).toNat * 3)).off + 1, none⟩ = some (.int .i64 ((rd_T54 l3 x17_2).f1)) ∧ w'.cell? ⟨(ad116.add ((x17_2).toNat * 3)).block, (ad116.add ((x17_2).toNat * 3)).off + 2, none⟩ = some (.slice A116_2 ((rd_T54 l3 x17_2).f2).length c116_2) ∧ w'.cell? (ad116.add ((x17_2).toNat * 3)) = some (.bool ((rd_T54 l3 x17_2).f0)) ∧ w'.cell? ⟨(ad116.add ((x17_2).toNat * 3)).block, (ad116.add ((x17_2).toNat * 3)).off + 1, none⟩ = some (.int .i64 ((rd_T54 l3 x17_2).f1)) ∧ w'.cell? ⟨(ad116.add ((x17_2).toNat * 3)).block, (ad116.add ((x17_2).toNat * 3)).off + 2, none⟩ = some (.slice A116_2 ((rd_T54 l3 x17_2).f2).length c116_2)) ∧ (Kd.R (Kd.int .i64) 3 w' w.heap.size (fun _ => True) s_.1 y119) ∧ (Kd.S k54 54 w' w.heap.size (fun k_ => some k_ ≠ (s_.1 : Value).ownBlock ∧ k_ ≠ s_.2) (.slice Ao18 x15_3.length co18) x15_3) ∧ (w'.heap[s_.2]? = some (.cells #[.bool false, .int .i64 0, .slice none 0 0] 54 (0, 0))) ∧ (w.heap.size ≤ s_.2) ∧ (w.heap.size ≤ s_.2) ∧ (Below w.heap.size w w')) ?_ ?_
      rotate_left
      ·intro hJ9_25_33
       refine join_ (σ := Unit) 5 #[true, true, true, true, true, true, true, true, true, true, true, true, true, true, true, true, true, true, true, true, true, true, true, true, true, false, true, true, true, true, true, false, false, false, false] (fun s_ => [(71, .int .i64 t117), (81, .int .i64 t118), (72, .int .i64 (Int.tmod t117 2)), (73, .int .i64 (wrap64 (2 * (Int.tmod t117 2)))), (74, .int .i64 (wrap64 ((wrap64 (2 * (Int.tmod t117 2))) - 1))), (75, .int .i64 (wrap64 (a4 * (wrap64 ((wrap64 (2 * (Int.tmod t117 2))) - 1))))), (76, .int .i64 (wrap64 (((rd_T54 l3 x17_2).f1) + (wrap64 (a4 * (wrap64 ((wrap64 (2 * (Int.tmod t117 2))) - 1))))))), (82, .int .i64 (Int.tmod t118 2)), (83, .int .i64 (wrap64 (2 * (Int.tmod t118 2)))), (84, .int .i64 (wrap64 ((wrap64 (2 * (Int.tmod t118 2))) - 1))), (85, .int .i64 (wrap64 (a5 * (wrap64 ((wrap64 (2 * (Int.tmod t118 2))) - 1))))), (86, .int .i64 (wrap64 ((wrap64 (((rd_T54 l3 x17_2).f1) + (wrap64 (a4 * (wrap64 ((wrap64 (2 * (Int.tmod t117 2))) - 1)))))) + (wrap64 (a5 * (wrap64 ((wrap64 (2 * (Int.tmod t118 2))) - 1)))))))]) (fun s_ w' => (w'.cell? (ad116.add ((x17_2).toNat * 3)) = some (.bool ((rd_T54 l3 x17_2).f0)) ∧ w'.cell? ⟨(ad116.add ((x17_2).toNat * 3)).block, (ad116.add ((x17_2).toNat * 3)).off + 1, none⟩ = some (.int .i64 ((rd_T54 l3 x17_2).f1)) ∧ w'.cell? ⟨(ad116.add ((x17_2).toNat * 3)).block, (ad116.add ((x17_2).toNat * 3)).off + 2, none⟩ = some (.slice A116_2 ((rd_T54 l3 x17_2).f2).length c116_2) ∧ w'.cell? (ad116.add ((x17_2).toNat * 3)) = some (.bool ((rd_T54 l3 x17_2).f0)) ∧ w'.cell? ⟨(ad116.add ((x17_2).toNat * 3)).block, (ad116.add ((x17_2).toNat * 3)).off + 1, none⟩ = some (.int .i64 ((rd_T54 l3 x17_2).f1)) ∧ w'.cell? ⟨(ad116.add ((x17_2).toNat * 3)).block, (ad116.add ((x17_2).toNat * 3)).off + 2, none⟩ = some (.slice A116_2 ((rd_T54 l3 x17_2).f2).length c116_2)) ∧ (Kd.S k54 54 w' w.heap.size (fun _ => True) (.slice Ao18 x15_3.length co18) x15_3) ∧ (Below w.heap.size w w')) ?_ ?_
       rotate_left
       ·intro hJ9_19
        refine join_ (σ := Value) 10 #[true, true, true, true, true, true, true, true, true, true, true, true, true, true, true, true, true, true, true, false, false, false, false, false, false, true, true, true, true, true, true, false, false, false, false] (fun s_ => [(71, .int .i64 t117), (87, s_), (72, .int .i64 (Int.tmod t117 2)), (73, .int .i64 (wrap64 (2 * (Int.tmod t117 2)))), (74, .int .i64 (wrap64 ((wrap64 (2 * (Int.tmod t117 2))) - 1))), (75, .int .i64 (wrap64 (a4 * (wrap64 ((wrap64 (2 * (Int.tmod t117 2))) - 1))))), (76, .int .i64 (wrap64 (((rd_T54 l3 x17_2).f1) + (wrap64 (a4 * (wrap64 ((wrap64 (2 * (Int.tmod t117 2))) - 1)))))))]) (fun s_ w' => (w'.cell? (ad116.add ((x17_2).toNat * 3)) = some (.bool ((rd_T54 l3 x17_2).f0)) ∧ w'.cell? ⟨(ad116.add ((x17_2).toNat * 3)).block, (ad116.add ((x17_2).toNat * 3)).off + 1, none⟩ = some (.int .i64 ((rd_T54 l3 x17_2).f1)) ∧ w'.cell? ⟨(ad116.add ((x17_2).toNat * 3)).block, (ad116.add ((x17_2).toNat * 3)).off + 2, none⟩ = some (.slice A116_2 ((rd_T54 l3 x17_2).f2).length c116_2) ∧ w'.cell? (ad116.add ((x17_2).toNat * 3)) = some (.bool ((rd_T54 l3 x17_2).f0)) ∧ w'.cell? ⟨(ad116.add ((x17_2).toNat * 3)).block, (ad116.add ((x17_2).toNat * 3)).off + 1, none⟩ = some (.int .i64 ((rd_T54 l3 x17_2).f1)) ∧ w'.cell? ⟨(ad116.add ((x17_2).toNat * 3)).block, (ad116.add ((x17_2).toNat * 3)).off + 2, none⟩ = some (.slice A116_2 ((rd_T54 l3 x17_2).f2).length c116_2)) ∧ (Kd.R (Kd.int .i64) 3 w' w.heap.size (fun _ => True) s_ y119) ∧ (Kd.S k54 54 w' w.heap.size (fun k_ => some k_ ≠ (s_ : Value).ownBlock) (.slice Ao18 x15_3.length co18) x15_3) ∧ (Below w.heap.size w w')) ?_ ?_
        rotate_left
        ·intro hJ9_25
         refine join_ (σ := Nat) 10 #[true, true, true, true, true, true, true, true, true, true, true, true, true, true, true, true, true, true, true, false, false, false, false, false, false, false, true, true, true, true, true, false, false, true, false] (fun s_ => [(71, .int .i64 t117), (20, .pointer (some ⟨s_, 0, none⟩)), (72, .int .i64 (Int.tmod t117 2)), (73, .int .i64 (wrap64 (2 * (Int.tmod t117 2)))), (74, .int .i64 (wrap64 ((wrap64 (2 * (Int.tmod t117 2))) - 1))), (75, .int .i64 (wrap64 (a4 * (wrap64 ((wrap64 (2 * (Int.tmod t117 2))) - 1))))), (76, .int .i64 (wrap64 (((rd_T54 l3 x17_2).f1) + (wrap64 (a4 * (wrap64 ((wrap64 (2 * (Int.tmod t117 2))) - 1)))))))]) (fun s_ w' => (w'.cell? (ad116.add ((x17_2).toNat * 3)) = some (.bool ((rd_T54 l3 x17_2).f0)) ∧ w'.cell? ⟨(ad116.add ((x17_2).toNat * 3)).block, (ad116.add ((x17_2).toNat * 3)).off + 1, none⟩ = some (.int .i64 ((rd_T54 l3 x17_2).f1)) ∧ w'.cell? ⟨(ad116.add ((x17_2).toNat * 3)).block, (ad116.add ((x17_2).toNat * 3)).off + 2, none⟩ = some (.slice A116_2 ((rd_T54 l3 x17_2).f2).length c116_2) ∧ w'.cell? (ad116.add ((x17_2).toNat * 3)) = some (.bool ((rd_T54 l3 x17_2).f0)) ∧ w'.cell? ⟨(ad116.add ((x17_2).toNat * 3)).block, (ad116.add ((x17_2).toNat * 3)).off + 1, none⟩ = some (.int .i64 ((rd_T54 l3 x17_2).f1)) ∧ w'.cell? ⟨(ad116.add ((x17_2).toNat * 3)).block, (ad116.add ((x17_2).toNat * 3)).off + 2, none⟩ = some (.slice A116_2 ((rd_T54 l3 x17_2).f2).length c116_2)) ∧ (Kd.S k54 54 w' w.heap.size (fun k_ => k_ ≠ s_) (.slice Ao18 x15_3.length co18) x15_3) ∧ (w'.heap[s_]? = some (.cells #[.bool false, .int .i64 0, .slice none 0 0] 54 (0, 0))) ∧ (w.heap.size ≤ s_) ∧ (w.heap.size ≤ s_) ∧ (Below w.heap.size w w')) ?_ ?_
         rotate_left
         ·intro hJ9_33
          refine join_ (σ := Value × Nat) 15 #[true, true, true, true, true, true, true, true, true, false, false, false, false, false, false, true, true, true, true, false, false, false, false, false, false, true, true, true, true, true, true, false, false, true, false] (fun s_ => [(87, s_.1), (20, .pointer (some ⟨s_.2, 0, none⟩))]) (fun s_ w' => (w'.cell? (ad116.add ((x17_2).toNat * 3)) = some (.bool ((rd_T54 l3 x17_2).f0)) ∧ w'.cell? ⟨(ad116.add ((x17_2).toNat * 3)).block, (ad116.add ((x17_2).toNat * 3)).off + 1, none⟩ = some (.int .i64 ((rd_T54 l3 x17_2).f1)) ∧ w'.cell? ⟨(ad116.add ((x17_2).toNat * 3)).block, (ad116.add ((x17_2).toNat * 3)).off + 2, none⟩ = some (.slice A116_2 ((rd_T54 l3 x17_2).f2).length c116_2) ∧ w'.cell? (ad116.add ((x17_2).toNat * 3)) = some (.bool ((rd_T54 l3 x17_2).f0)) ∧ w'.cell? ⟨(ad116.add ((x17_2).toNat * 3)).block, (ad116.add ((x17_2).toNat * 3)).off + 1, none⟩ = some (.int .i64 ((rd_T54 l3 x17_2).f1)) ∧ w'.cell? ⟨(ad116.add ((x17_2).toNat * 3)).block, (ad116.add ((x17_2).toNat * 3)).off + 2, none⟩ = some (.slice A116_2 ((rd_T54 l3 x17_2).f2).length c116_2)) ∧ (Kd.R (Kd.int .i64) 3 w' w.heap.size (fun _ => True) s_.1 y119) ∧ (Kd.S k54 54 w' w.heap.size (fun k_ => some k_ ≠ (s_.1 : Value).ownBlock ∧ k_ ≠ s_.2) (.slice Ao18 x15_3.length co18) x15_3) ∧ (w'.heap[s_.2]? = some (.cells #[.bool false, .int .i64 0, .slice none 0 0] 54 (0, 0))) ∧ (w.heap.size ≤ s_.2) ∧ (w.heap.size ≤ s_.2) ∧ (Below w.heap.size w w')) ?_ ?_
          rotate_left
          ·intro hJ25_33
           refine join_ (σ := Unit) 11 #[true, true, true, true, true, true, true, true, true, true, true, true, true, true, true, true, true, true, true, false, false, false, false, false, false, false, true, true, true, true, true, false, false, false, false] (fun s_ => [(71, .int .i64 t117), (72, .int .i64 (Int.tmod t117 2)), (73, .int .i64 (wrap64 (2 * (Int.tmod t117 2)))), (74, .int .i64 (wrap64 ((wrap64 (2 * (Int.tmod t117 2))) - 1))), (75, .int .i64 (wrap64 (a4 * (wrap64 ((wrap64 (2 * (Int.tmod t117 2))) - 1))))), (76, .int .i64 (wrap64 (((rd_T54 l3 x17_2).f1) + (wrap64 (a4 * (wrap64 ((wrap64 (2 * (Int.tmod t117 2))) - 1)))))))]) (fun s_ w' => (w'.cell? (ad116.add ((x17_2).toNat * 3)) = some (.bool ((rd_T54 l3 x17_2).f0)) ∧ w'.cell? ⟨(ad116.add ((x17_2).toNat * 3)).block, (ad116.add ((x17_2).toNat * 3)).off + 1, none⟩ = some (.int .i64 ((rd_T54 l3 x17_2).f1)) ∧ w'.cell? ⟨(ad116.add ((x17_2).toNat * 3)).block, (ad116.add ((x17_2).toNat * 3)).off + 2, none⟩ = some (.slice A116_2 ((rd_T54 l3 x17_2).f2).length c116_2) ∧ w'.cell? (ad116.add ((x17_2).toNat * 3)) = some (.bool ((rd_T54 l3 x17_2).f0)) ∧ w'.cell? ⟨(ad116.add ((x17_2).toNat * 3)).block, (ad116.add ((x17_2).toNat * 3)).off + 1, none⟩ = some (.int .i64 ((rd_T54 l3 x17_2).f1)) ∧ w'.cell? ⟨(ad116.add ((x17_2).toNat * 3)).block, (ad116.add ((x17_2).toNat * 3)).off + 2, none⟩ = some (.slice A116_2 ((rd_T54 l3 x17_2).f2).length c116_2)) ∧ (Kd.S k54 54 w' w.heap.size (fun _ => True) (.slice Ao18 x15_3.length co18) x15_3) ∧ (Below w.heap.size w w')) ?_ ?_
           rotate_left
           ·intro hJ9
            refine join_ (σ := Value) 16 #[true, true, true, true, true, true, true, true, true, false, false, false, false, false, false, true, true, true, true, false, false, false, false, false, false, true, true, true, true, true, true, false, false, false, false] (fun s_ => [(87, s_)]) (fun s_ w' => (w'.cell? (ad116.add ((x17_2).toNat * 3)) = some (.bool ((rd_T54 l3 x17_2).f0)) ∧ w'.cell? ⟨(ad116.add ((x17_2).toNat * 3)).block, (ad116.add ((x17_2).toNat * 3)).off + 1, none⟩ = some (.int .i64 ((rd_T54 l3 x17_2).f1)) ∧ w'.cell? ⟨(ad116.add ((x17_2).toNat * 3)).block, (ad116.add ((x17_2).toNat * 3)).off + 2, none⟩ = some (.slice A116_2 ((rd_T54 l3 x17_2).f2).length c116_2) ∧ w'.cell? (ad116.add ((x17_2).toNat * 3)) = some (.bool ((rd_T54 l3 x17_2).f0)) ∧ w'.cell? ⟨(ad116.add ((x17_2).toNat * 3)).block, (ad116.add ((x17_2).toNat * 3)).off + 1, none⟩ = some (.int .i64 ((rd_T54 l3 x17_2).f1)) ∧ w'.cell? ⟨(ad116.add ((x17_2).toNat * 3)).block, (ad116.add ((x17_2).toNat * 3)).off + 2, none⟩ = some (.slice A116_2 ((rd_T54 l3 x17_2).f2).length c116_2)) ∧ (Kd.R (Kd.int .i64) 3 w' w.heap.size (fun _ => True) s_ y119) ∧ (Kd.S k54 54 w' w.heap.size (fun k_ => some k_ ≠ (s_ : Value).ownBlock) (.slice Ao18 x15_3.length co18) x15_3) ∧ (Below w.heap.size w w')) ?_ ?_
            rotate_left
            ·intro hJ25
             refine join_ (σ := Nat) 16 #[true, true, true, true, true, true, true, true, true, false, false, false, false, false, false, true, true, true, true, false, false, false, false, false, false, false, true, true, true, true, true, false, false, true, false] (fun s_ => [(20, .pointer (some ⟨s_, 0, none⟩))]) (fun s_ w' => (w'.cell? (ad116.add ((x17_2).toNat * 3)) = some (.bool ((rd_T54 l3 x17_2).f0)) ∧ w'.cell? ⟨(ad116.add ((x17_2).toNat * 3)).block, (ad116.add ((x17_2).toNat * 3)).off + 1, none⟩ = some (.int .i64 ((rd_T54 l3 x17_2).f1)) ∧ w'.cell? ⟨(ad116.add ((x17_2).toNat * 3)).block, (ad116.add ((x17_2).toNat * 3)).off + 2, none⟩ = some (.slice A116_2 ((rd_T54 l3 x17_2).f2).length c116_2) ∧ w'.cell? (ad116.add ((x17_2).toNat * 3)) = some (.bool ((rd_T54 l3 x17_2).f0)) ∧ w'.cell? ⟨(ad116.add ((x17_2).toNat * 3)).block, (ad116.add ((x17_2).toNat * 3)).off + 1, none⟩ = some (.int .i64 ((rd_T54 l3 x17_2).f1)) ∧ w'.cell? ⟨(ad116.add ((x17_2).toNat * 3)).block, (ad116.add ((x17_2).toNat * 3)).off + 2, none⟩ = some (.slice A116_2 ((rd_T54 l3 x17_2).f2).length c116_2)) ∧ (Kd.S k54 54 w' w.heap.size (fun k_ => k_ ≠ s_) (.slice Ao18 x15_3.length co18) x15_3) ∧ (w'.heap[s_]? = some (.cells #[.bool false, .int .i64 0, .slice none 0 0] 54 (0, 0))) ∧ (w.heap.size ≤ s_) ∧ (w.heap.size ≤ s_) ∧ (Below w.heap.size w w')) ?_ ?_
             rotate_left
             ·intro hJ33
              refine three_ (i := 9) (j := 25) (k := 33) (Ni := some 71) (Nj := some 87) (Nk := some 20) #[true, true, true, true, true, true, true, true, true, true, false, false, false, false, false, true, true, true, true, false, false, false, false, false, false, false, true, true, true, true, true, false, false, false, false] #[true, true, true, true, true, true, true, true, true, false, false, false, false, false, false, true, true, true, true, false, false, false, false, false, false, true, true, true, true, true, true, false, false, false, false] #[true, true, true, true, true, true, true, true, true, false, false, false, false, false, false, true, true, true, true, false, false, false, false, false, false, false, true, true, true, true, true, false, false, true, false] rfl rfl rfl rfl rfl rfl (three_of HT_.out (by kernel_rfl)) (by decide) (by decide) (by decide) (fun K hK => ?_) (fun K hK => ?_) (fun K hK => ?_)
              ·skip
               refine goes_ Try.func41 (by kernel_rfl) rfl #[.int .i64 (Go.bits .and .i64 (wrap64 ((wrap64 (2 * x17_2)) + x18_3)) a1)] (by rfl) rfl rfl (by (try simp only [List.map_toArray, List.map_cons, List.map_nil]); first | done | rfl | (simp only [List.length_drop, List.length_take]; rfl)) ?_
               with_reducible refine (spec_l14Ones.calls kj24 (Go.bits .and .i64 (wrap64 ((wrap64 (2 * x17_2)) + x18_3)) a1) t117 _ A30.out).mono ?_
               rintro e w' ⟨rfl, ⟨nd, rfl⟩⟩
               refine ⟨_, rfl, ?_⟩
               refine hK.out _ _ ⟨((HB.out.cell (zW w _ hw116_0)).trans hw116_0), ((HB.out.cell (zW w _ hw116_1)).trans hw116_1), ((HB.out.cell (zW w _ hw116_2)).trans hw116_2), ((HB.out.cell (zW w _ hw122_0)).trans hw122_0), ((HB.out.cell (zW w _ hw122_1)).trans hw122_1), ((HB.out.cell (zW w _ hw122_2)).trans hw122_2)⟩ (fun hHeld => ?_)
               clear hK K
               refine norm_ (a' := ?_) ?_ ?_
               rotate_left
               ·show Act.put _ (some 71) _ = _
                simp only [Act.put, List.setIfInBounds_toArray, List.set_cons_zero, List.set_cons_succ, i64_w, i32_w]
                rfl
               refine pure_ (i := 10) (N := some 72) (v := ?_) (a' := ?_) #[true, true, true, true, true, true, true, true, true, true, true, false, false, false, false, true, true, true, true, false, false, false, false, false, false, false, true, true, true, true, true, false, false, false, false] rfl rfl (any_of HT_.out (by kernel_rfl)) (fun _ _ _ h => hQp _ _ _ _ (by rfl) h) (Or.inl ⟨by rfl, ?_⟩) ?_ ?_
               rotate_left
               ·intro w'
                go_simp
                with_reducible rfl
               rotate_left
               ·simp only [Act.put, List.setIfInBounds_toArray, List.set_cons_zero, List.set_cons_succ, i64_w, i32_w]
                rfl
               refine pure_ (i := 11) (N := some 73) (v := ?_) (a' := ?_) #[true, true, true, true, true, true, true, true, true, true, true, true, false, false, false, true, true, true, true, false, false, false, false, false, false, false, true, true, true, true, true, false, false, false, false] rfl rfl (any_of HT_.out (by kernel_rfl)) (fun _ _ _ h => hQp _ _ _ _ (by rfl) h) (Or.inl ⟨by rfl, ?_⟩) ?_ ?_
               rotate_left
               ·intro w'
                go_simp
                with_reducible rfl
               rotate_left
               ·simp only [Act.put, List.setIfInBounds_toArray, List.set_cons_zero, List.set_cons_succ, i64_w, i32_w]
                rfl
               refine pure_ (i := 12) (N := some 74) (v := ?_) (a' := ?_) #[true, true, true, true, true, true, true, true, true, true, true, true, true, false, false, true, true, true, true, false, false, false, false, false, false, false, true, true, true, true, true, false, false, false, false] rfl rfl (any_of HT_.out (by kernel_rfl)) (fun _ _ _ h => hQp _ _ _ _ (by rfl) h) (Or.inl ⟨by rfl, ?_⟩) ?_ ?_
               rotate_left
               ·intro w'
                go_simp
                with_reducible rfl
               rotate_left
               ·simp only [Act.put, List.setIfInBounds_toArray, List.set_cons_zero, List.set_cons_succ, i64_w, i32_w]
                rfl
               refine pure_ (i := 13) (N := some 75) (v := ?_) (a' := ?_) #[true, true, true, true, true, true, true, true, true, true, true, true, true, true, false, true, true, true, true, false, false, false, false, false, false, false, true, true, true, true, true, false, false, false, false] rfl rfl (any_of HT_.out (by kernel_rfl)) (fun _ _ _ h => hQp _ _ _ _ (by rfl) h) (Or.inl ⟨by rfl, ?_⟩) ?_ ?_
               rotate_left
               ·intro w'
                go_simp
                with_reducible rfl
               rotate_left
               ·simp only [Act.put, List.setIfInBounds_toArray, List.set_cons_zero, List.set_cons_succ, i64_w, i32_w]
                rfl
               refine pure_ (i := 14) (N := some 76) (v := ?_) (a' := ?_) #[true, true, true, true, true, true, true, true, true, true, true, true, true, true, true, true, true, true, true, false, false, false, false, false, false, false, true, true, true, true, true, false, false, false, false] rfl rfl (any_of HT_.out (by kernel_rfl)) (fun _ _ _ h => hQp _ _ _ _ (by rfl) h) (Or.inl ⟨by rfl, ?_⟩) ?_ ?_
               rotate_left
               ·intro w'
                go_simp
                with_reducible rfl
               rotate_left
               ·simp only [Act.put, List.setIfInBounds_toArray, List.set_cons_zero, List.set_cons_succ, i64_w, i32_w]
                rfl
               exact norm_ (by first | (simp only [putAll, Act.put, List.setIfInBounds_toArray, List.set_cons_zero, List.set_cons_succ]; done) | (simp only [putAll, Act.put, List.setIfInBounds_toArray, List.set_cons_zero, List.set_cons_succ]; rfl)) (hJ9 () _ ⟨hHeld, (by (with_reducible repeat (first | apply Kd.S_alloc | apply Kd.S_drewN | apply Kd.S_drew)); first | exact HO_15.out | (subst_vars; exact HO_15.out)), (by repeat (first | (with_reducible first | exact HB.out | apply zBa | apply zBn | apply zBd) | exact HB.out))⟩)
              ·skip
               refine Kd.R_lit_step (Kd.int .i64) _ 3 ?hg (N := 87) ?hd (xs := ([] : List Int)) (inner := []) (ok := fun _ => True) (okp := fun _ => True) ?hr ?hp (fun _ hk => hk) trivial (Below.refl _ _) (Nat.le_refl _) (by simp) ?_; (case hd => rfl); (case hg => rfl); (case hr => first | (go_simp; done) | (go_simp; rfl)); (case hp => exact (Reps.none _ _))
               intro v120 w45 ho46 hb hg_ hnew_
               clear hg_ hnew_
               (first | rw [← Ny119.out] at ho46 | (simp only [Int.reduceToNat] at ho46; rw [← Ny119.out] at ho46))
               have n0_ := Aside0.mk (Kd.S_elder' (by (with_reducible repeat (first | apply Kd.S_alloc | apply Kd.S_drewN | apply Kd.S_drew)); first | exact HO_15.out | (subst_vars; exact HO_15.out)) (Kd.R_base ho46) hb)
               have n1_ := Aside0.mk (Kd.R_lower ho46 (below_size (by repeat (first | (with_reducible first | exact HB.out | apply zBa | apply zBn | apply zBd) | exact HB.out))))
               have n2_ := Aside0.mk (below_step (by repeat (first | (with_reducible first | exact HB.out | apply zBa | apply zBn | apply zBd) | exact HB.out)) hb)
               clear HO_15
               clear HB
               have HO_15 := n0_
               have HO121 := n1_
               have HB := n2_
               clear n0_ n1_ n2_
               clear hb ho46
               refine hK.out _ _ ⟨((HB.out.cell (zW w _ hw116_0)).trans hw116_0), ((HB.out.cell (zW w _ hw116_1)).trans hw116_1), ((HB.out.cell (zW w _ hw116_2)).trans hw116_2), ((HB.out.cell (zW w _ hw122_0)).trans hw122_0), ((HB.out.cell (zW w _ hw122_1)).trans hw122_1), ((HB.out.cell (zW w _ hw122_2)).trans hw122_2)⟩ (fun hHeld => ?_)
               clear hK K
               refine norm_ (a' := ?_) ?_ ?_
               rotate_left
               ·show Act.put _ (some 87) _ = _
                simp only [Act.put, List.setIfInBounds_toArray, List.set_cons_zero, List.set_cons_succ, i64_w, i32_w]
                rfl
               exact norm_ (by first | (simp only [putAll, Act.put, List.setIfInBounds_toArray, List.set_cons_zero, List.set_cons_succ]; done) | (simp only [putAll, Act.put, List.setIfInBounds_toArray, List.set_cons_zero, List.set_cons_succ]; rfl)) (hJ25 (v120) _ ⟨hHeld, (by (with_reducible repeat (first | apply zRa | apply zRn | apply zRd)); first | exact HO121.out | (subst_vars; exact HO121.out)), (by (with_reducible repeat (first | apply Kd.S_alloc | apply Kd.S_drewN | apply Kd.S_drew)); first | exact Kd.S_mono HO_15.out (fun _ hk => hk.2) | (subst_vars; exact Kd.S_mono HO_15.out (fun _ hk => hk.2))), (by repeat (first | (with_reducible first | exact HB.out | apply zBa | apply zBn | apply zBd) | exact HB.out))⟩)
              ·skip
               refine box_step ?hg (N := 20) ?hd (cs := #[.bool false, .int .i64 0, .slice none 0 0]) (t := 54) ?hr ?_; (case hd => rfl); (case hg => rfl); (case hr => first | (go_simp; done) | (go_simp; rfl))
               intro gb126 hg w45 hbox hb
               have n0_ := Aside0.mk (Kd.S_below (Kd.S_elderB (by (with_reducible repeat (first | apply Kd.S_alloc | apply Kd.S_drewN | apply Kd.S_drew)); first | exact HO_15.out | (subst_vars; exact HO_15.out)) gb126 (Nat.le_of_eq hg.symm)) hb)
               have n1_ := Aside0.mk (below_step (by repeat (first | (with_reducible first | exact HB.out | apply zBa | apply zBn | apply zBd) | exact HB.out)) hb)
               have n2_ := Aside0.mk (hbox)
               have n3_ := Aside0.mk ((by rw [hg]; exact (below_size (by repeat (first | (with_reducible first | exact HB.out | apply zBa | apply zBn | apply zBd) | exact HB.out))) : w.heap.size ≤ gb126))
               have n4_ := Aside0.mk ((by rw [hg]; exact (below_size (by repeat (first | (with_reducible first | exact HB.out | apply zBa | apply zBn | apply zBd) | exact HB.out))) : w.heap.size ≤ gb126))
               clear HO_15
               clear HB
               have HO_15 := n0_
               have HB := n1_
               have BK126 := n2_
               have GW126 := n3_
               have GE126 := n4_
               clear n0_ n1_ n2_ n3_ n4_
               clear hb hbox hg
               refine hK.out _ _ ⟨((HB.out.cell (zW w _ hw116_0)).trans hw116_0), ((HB.out.cell (zW w _ hw116_1)).trans hw116_1), ((HB.out.cell (zW w _ hw116_2)).trans hw116_2), ((HB.out.cell (zW w _ hw122_0)).trans hw122_0), ((HB.out.cell (zW w _ hw122_1)).trans hw122_1), ((HB.out.cell (zW w _ hw122_2)).trans hw122_2)⟩ (fun hHeld => ?_)
               clear hK K
               refine norm_ (a' := ?_) ?_ ?_
               rotate_left
               ·show Act.put _ (some 20) _ = _
                simp only [Act.put, List.setIfInBounds_toArray, List.set_cons_zero, List.set_cons_succ, i64_w, i32_w]
                rfl
               exact norm_ (by first | (simp only [putAll, Act.put, List.setIfInBounds_toArray, List.set_cons_zero, List.set_cons_succ]; done) | (simp only [putAll, Act.put, List.setIfInBounds_toArray, List.set_cons_zero, List.set_cons_succ]; rfl)) (hJ33 (gb126) _ ⟨hHeld, (by (with_reducible repeat (first | apply Kd.S_alloc | apply Kd.S_drewN | apply Kd.S_drew)); first | exact Kd.S_mono HO_15.out (fun _ hk => hk.2) | (subst_vars; exact Kd.S_mono HO_15.out (fun _ hk => hk.2))), (by (with_reducible repeat (first | apply zNn | apply zNd | apply zNa)); exact BK126.out), GW126.out, GE126.out, (by repeat (first | (with_reducible first | exact HB.out | apply zBa | apply zBn | apply zBd | refine zBs ?_ GE126.out) | exact HB.out))⟩)
             ·skip
              rintro gb126 w46 ⟨hS_, h0_, h1_, h2_, h3_, h4_⟩
              have n0_ : Aside0 (Kd.S k54 54 w46 w.heap.size (fun k_ => k_ ≠ gb126) (.slice Ao18 x15_3.length co18) x15_3) := ⟨h0_⟩
              have n1_ : Aside0 (w46.heap[gb126]? = some (.cells #[.bool false, .int .i64 0, .slice none 0 0] 54 (0, 0))) := ⟨h1_⟩
              have n2_ : Aside0 (w.heap.size ≤ gb126) := ⟨h2_⟩
              have n3_ : Aside0 (w.heap.size ≤ gb126) := ⟨h3_⟩
              have n4_ : Aside0 (Below w.heap.size w w46) := ⟨h4_⟩
              clear HO_15
              clear HB
              clear h0_ h1_ h2_ h3_ h4_
              have HO_15 := n0_
              have BK126 := n1_
              have GW126 := n2_
              have GE126 := n3_
              have HB := n4_
              clear n0_ n1_ n2_ n3_ n4_
              have hHeld : w46.cell? (ad116.add ((x17_2).toNat * 3)) = some (.bool ((rd_T54 l3 x17_2).f0)) ∧ w46.cell? ⟨(ad116.add ((x17_2).toNat * 3)).block, (ad116.add ((x17_2).toNat * 3)).off + 1, none⟩ = some (.int .i64 ((rd_T54 l3 x17_2).f1)) ∧ w46.cell? ⟨(ad116.add ((x17_2).toNat * 3)).block, (ad116.add ((x17_2).toNat * 3)).off + 2, none⟩ = some (.slice A116_2 ((rd_T54 l3 x17_2).f2).length c116_2) ∧ w46.cell? (ad116.add ((x17_2).toNat * 3)) = some (.bool ((rd_T54 l3 x17_2).f0)) ∧ w46.cell? ⟨(ad116.add ((x17_2).toNat * 3)).block, (ad116.add ((x17_2).toNat * 3)).off + 1, none⟩ = some (.int .i64 ((rd_T54 l3 x17_2).f1)) ∧ w46.cell? ⟨(ad116.add ((x17_2).toNat * 3)).block, (ad116.add ((x17_2).toNat * 3)).off + 2, none⟩ = some (.slice A116_2 ((rd_T54 l3 x17_2).f2).length c116_2) := hS_
              refine norm_ (a' := ?_) ?_ ?_
              rotate_left
              ·simp only [putAll, Act.put, List.setIfInBounds_toArray, List.set_cons_zero, List.set_cons_succ]
               rfl
              refine two_ (i := 9) (j := 25) (Ni := some 71) (Nj := some 87) #[true, true, true, true, true, true, true, true, true, true, false, false, false, false, false, true, true, true, true, false, false, false, false, false, false, false, true, true, true, true, true, false, false, true, false] #[true, true, true, true, true, true, true, true, true, false, false, false, false, false, false, true, true, true, true, false, false, false, false, false, false, true, true, true, true, true, true, false, false, true, false] rfl rfl rfl rfl (two_of HT_.out (by kernel_rfl)) (by decide) (by decide) (fun K hK => ?_) (fun K hK => ?_)
              ·skip
               refine goes_ Try.func41 (by kernel_rfl) rfl #[.int .i64 (Go.bits .and .i64 (wrap64 ((wrap64 (2 * x17_2)) + x18_3)) a1)] (by rfl) rfl rfl (by (try simp only [List.map_toArray, List.map_cons, List.map_nil]); first | done | rfl | (simp only [List.length_drop, List.length_take]; rfl)) ?_
               with_reducible refine (spec_l14Ones.calls kj24 (Go.bits .and .i64 (wrap64 ((wrap64 (2 * x17_2)) + x18_3)) a1) t117 _ A30.out).mono ?_
               rintro e w' ⟨rfl, ⟨nd, rfl⟩⟩
               refine ⟨_, rfl, ?_⟩
               refine hK.out _ _ ⟨((HB.out.cell (zW w _ hw116_0)).trans hw116_0), ((HB.out.cell (zW w _ hw116_1)).trans hw116_1), ((HB.out.cell (zW w _ hw116_2)).trans hw116_2), ((HB.out.cell (zW w _ hw122_0)).trans hw122_0), ((HB.out.cell (zW w _ hw122_1)).trans hw122_1), ((HB.out.cell (zW w _ hw122_2)).trans hw122_2)⟩ (fun hHeld => ?_)
               clear hK K
               refine norm_ (a' := ?_) ?_ ?_
               rotate_left
               ·show Act.put _ (some 71) _ = _
                simp only [Act.put, List.setIfInBounds_toArray, List.set_cons_zero, List.set_cons_succ, i64_w, i32_w]
                rfl
               refine pure_ (i := 10) (N := some 72) (v := ?_) (a' := ?_) #[true, true, true, true, true, true, true, true, true, true, true, false, false, false, false, true, true, true, true, false, false, false, false, false, false, false, true, true, true, true, true, false, false, true, false] rfl rfl (any_of HT_.out (by kernel_rfl)) (fun _ _ _ h => hQp _ _ _ _ (by rfl) h) (Or.inl ⟨by rfl, ?_⟩) ?_ ?_
               rotate_left
               ·intro w'
                go_simp
                with_reducible rfl
               rotate_left
               ·simp only [Act.put, List.setIfInBounds_toArray, List.set_cons_zero, List.set_cons_succ, i64_w, i32_w]
                rfl
               refine pure_ (i := 11) (N := some 73) (v := ?_) (a' := ?_) #[true, true, true, true, true, true, true, true, true, true, true, true, false, false, false, true, true, true, true, false, false, false, false, false, false, false, true, true, true, true, true, false, false, true, false] rfl rfl (any_of HT_.out (by kernel_rfl)) (fun _ _ _ h => hQp _ _ _ _ (by rfl) h) (Or.inl ⟨by rfl, ?_⟩) ?_ ?_
               rotate_left
               ·intro w'
                go_simp
                with_reducible rfl
               rotate_left
               ·simp only [Act.put, List.setIfInBounds_toArray, List.set_cons_zero, List.set_cons_succ, i64_w, i32_w]
                rfl
               refine pure_ (i := 12) (N := some 74) (v := ?_) (a' := ?_) #[true, true, true, true, true, true, true, true, true, true, true, true, true, false, false, true, true, true, true, false, false, false, false, false, false, false, true, true, true, true, true, false, false, true, false] rfl rfl (any_of HT_.out (by kernel_rfl)) (fun _ _ _ h => hQp _ _ _ _ (by rfl) h) (Or.inl ⟨by rfl, ?_⟩) ?_ ?_
               rotate_left
               ·intro w'
                go_simp
                with_reducible rfl
               rotate_left
               ·simp only [Act.put, List.setIfInBounds_toArray, List.set_cons_zero, List.set_cons_succ, i64_w, i32_w]
                rfl
               refine pure_ (i := 13) (N := some 75) (v := ?_) (a' := ?_) #[true, true, true, true, true, true, true, true, true, true, true, true, true, true, false, true, true, true, true, false, false, false, false, false, false, false, true, true, true, true, true, false, false, true, false] rfl rfl (any_of HT_.out (by kernel_rfl)) (fun _ _ _ h => hQp _ _ _ _ (by rfl) h) (Or.inl ⟨by rfl, ?_⟩) ?_ ?_
               rotate_left
               ·intro w'
                go_simp
                with_reducible rfl
               rotate_left
               ·simp only [Act.put, List.setIfInBounds_toArray, List.set_cons_zero, List.set_cons_succ, i64_w, i32_w]
                rfl
               refine pure_ (i := 14) (N := some 76) (v := ?_) (a' := ?_) #[true, true, true, true, true, true, true, true, true, true, true, true, true, true, true, true, true, true, true, false, false, false, false, false, false, false, true, true, true, true, true, false, false, true, false] rfl rfl (any_of HT_.out (by kernel_rfl)) (fun _ _ _ h => hQp _ _ _ _ (by rfl) h) (Or.inl ⟨by rfl, ?_⟩) ?_ ?_
               rotate_left
               ·intro w'
                go_simp
                with_reducible rfl
               rotate_left
               ·simp only [Act.put, List.setIfInBounds_toArray, List.set_cons_zero, List.set_cons_succ, i64_w, i32_w]
                rfl
               exact norm_ (by first | (simp only [putAll, Act.put, List.setIfInBounds_toArray, List.set_cons_zero, List.set_cons_succ]; done) | (simp only [putAll, Act.put, List.setIfInBounds_toArray, List.set_cons_zero, List.set_cons_succ]; rfl)) (hJ9_33 (gb126) _ ⟨hHeld, (by (with_reducible repeat (first | apply Kd.S_alloc | apply Kd.S_drewN | apply Kd.S_drew)); first | exact HO_15.out | (subst_vars; exact HO_15.out)), (by (with_reducible repeat (first | apply zNn | apply zNd | apply zNa)); exact BK126.out), GW126.out, GE126.out, (by repeat (first | (with_reducible first | exact HB.out | apply zBa | apply zBn | apply zBd | refine zBs ?_ GE126.out) | exact HB.out))⟩)
              ·skip
               refine Kd.R_lit_step (Kd.int .i64) _ 3 ?hg (N := 87) ?hd (xs := ([] : List Int)) (inner := []) (ok := fun _ => True) (okp := fun _ => True) ?hr ?hp (fun _ hk => hk) trivial (Below.refl _ _) (Nat.le_refl _) (by simp) ?_; (case hd => rfl); (case hg => rfl); (case hr => first | (go_simp; done) | (go_simp; rfl)); (case hp => exact (Reps.none _ _))
               intro v120 w47 ho48 hb hg_ hnew_
               clear hg_ hnew_
               (first | rw [← Ny119.out] at ho48 | (simp only [Int.reduceToNat] at ho48; rw [← Ny119.out] at ho48))
               have n0_ := Aside0.mk (Kd.S_elder' (by (with_reducible repeat (first | apply Kd.S_alloc | apply Kd.S_drewN | apply Kd.S_drew)); first | exact HO_15.out | (subst_vars; exact HO_15.out)) (Kd.R_base ho48) hb)
               have n1_ := Aside0.mk (Kd.R_lower ho48 (below_size (by repeat (first | (with_reducible first | exact HB.out | apply zBa | apply zBn | apply zBd | refine zBs ?_ GE126.out) | exact HB.out))))
               have n2_ := Aside0.mk (zNb (g := gb126) (o := .cells #[.bool false, .int .i64 0, .slice none 0 0] 54 (0, 0)) (by (with_reducible repeat (first | apply zNn | apply zNd | apply zNa)); exact BK126.out) hb)
               have n3_ := Aside0.mk (below_step (by repeat (first | (with_reducible first | exact HB.out | apply zBa | apply zBn | apply zBd | refine zBs ?_ GE126.out) | exact HB.out)) hb)
               clear HO_15
               clear BK126
               clear HB
               have HO_15 := n0_
               have HO121 := n1_
               have BK126 := n2_
               have HB := n3_
               clear n0_ n1_ n2_ n3_
               clear hb ho48
               refine hK.out _ _ ⟨((HB.out.cell (zW w _ hw116_0)).trans hw116_0), ((HB.out.cell (zW w _ hw116_1)).trans hw116_1), ((HB.out.cell (zW w _ hw116_2)).trans hw116_2), ((HB.out.cell (zW w _ hw122_0)).trans hw122_0), ((HB.out.cell (zW w _ hw122_1)).trans hw122_1), ((HB.out.cell (zW w _ hw122_2)).trans hw122_2)⟩ (fun hHeld => ?_)
               clear hK K
               refine norm_ (a' := ?_) ?_ ?_
               rotate_left
               ·show Act.put _ (some 87) _ = _
                simp only [Act.put, List.setIfInBounds_toArray, List.set_cons_zero, List.set_cons_succ, i64_w, i32_w]
                rfl
               exact norm_ (by first | (simp only [putAll, Act.put, List.setIfInBounds_toArray, List.set_cons_zero, List.set_cons_succ]; done) | (simp only [putAll, Act.put, List.setIfInBounds_toArray, List.set_cons_zero, List.set_cons_succ]; rfl)) (hJ25_33 (v120, gb126) _ ⟨hHeld, (by (with_reducible repeat (first | apply zRa | apply zRn | apply zRd)); first | exact HO121.out | (subst_vars; exact HO121.out)), (by (with_reducible repeat (first | apply Kd.S_alloc | apply Kd.S_drewN | apply Kd.S_drew)); first | exact Kd.S_mono HO_15.out (fun _ hk => ⟨hk.2, hk.1⟩) | (subst_vars; exact Kd.S_mono HO_15.out (fun _ hk => ⟨hk.2, hk.1⟩))), (by (with_reducible repeat (first | apply zNn | apply zNd | apply zNa)); exact BK126.out), GW126.out, GE126.out, (by repeat (first | (with_reducible first | exact HB.out | apply zBa | apply zBn | apply zBd | refine zBs ?_ GE126.out) | exact HB.out))⟩)
            ·skip
             rintro v120 w47 ⟨hS_, h0_, h1_, h2_⟩
             have n0_ : Aside0 (Kd.R (Kd.int .i64) 3 w47 w.heap.size (fun _ => True) v120 y119) := ⟨h0_⟩
             have n1_ : Aside0 (Kd.S k54 54 w47 w.heap.size (fun k_ => some k_ ≠ (v120 : Value).ownBlock) (.slice Ao18 x15_3.length co18) x15_3) := ⟨h1_⟩
             have n2_ : Aside0 (Below w.heap.size w w47) := ⟨h2_⟩
             clear HO_15
             clear HB
             clear h0_ h1_ h2_
             have HO121 := n0_
             have HO_15 := n1_
             have HB := n2_
             clear n0_ n1_ n2_
             have hHeld : w47.cell? (ad116.add ((x17_2).toNat * 3)) = some (.bool ((rd_T54 l3 x17_2).f0)) ∧ w47.cell? ⟨(ad116.add ((x17_2).toNat * 3)).block, (ad116.add ((x17_2).toNat * 3)).off + 1, none⟩ = some (.int .i64 ((rd_T54 l3 x17_2).f1)) ∧ w47.cell? ⟨(ad116.add ((x17_2).toNat * 3)).block, (ad116.add ((x17_2).toNat * 3)).off + 2, none⟩ = some (.slice A116_2 ((rd_T54 l3 x17_2).f2).length c116_2) ∧ w47.cell? (ad116.add ((x17_2).toNat * 3)) = some (.bool ((rd_T54 l3 x17_2).f0)) ∧ w47.cell? ⟨(ad116.add ((x17_2).toNat * 3)).block, (ad116.add ((x17_2).toNat * 3)).off + 1, none⟩ = some (.int .i64 ((rd_T54 l3 x17_2).f1)) ∧ w47.cell? ⟨(ad116.add ((x17_2).toNat * 3)).block, (ad116.add ((x17_2).toNat * 3)).off + 2, none⟩ = some (.slice A116_2 ((rd_T54 l3 x17_2).f2).length c116_2) := hS_
             refine norm_ (a' := ?_) ?_ ?_
             rotate_left
             ·simp only [putAll, Act.put, List.setIfInBounds_toArray, List.set_cons_zero, List.set_cons_succ]
              rfl
             refine two_ (i := 9) (j := 33) (Ni := some 71) (Nj := some 20) #[true, true, true, true, true, true, true, true, true, true, false, false, false, false, false, true, true, true, true, false, false, false, false, false, false, true, true, true, true, true, true, false, false, false, false] #[true, true, true, true, true, true, true, true, true, false, false, false, false, false, false, true, true, true, true, false, false, false, false, false, false, true, true, true, true, true, true, false, false, true, false] rfl rfl rfl rfl (two_of HT_.out (by kernel_rfl)) (by decide) (by decide) (fun K hK => ?_) (fun K hK => ?_)
             ·skip
              refine goes_ Try.func41 (by kernel_rfl) rfl #[.int .i64 (Go.bits .and .i64 (wrap64 ((wrap64 (2 * x17_2)) + x18_3)) a1)] (by rfl) rfl rfl (by (try simp only [List.map_toArray, List.map_cons, List.map_nil]); first | done | rfl | (simp only [List.length_drop, List.length_take]; rfl)) ?_
              with_reducible refine (spec_l14Ones.calls kj24 (Go.bits .and .i64 (wrap64 ((wrap64 (2 * x17_2)) + x18_3)) a1) t117 _ A30.out).mono ?_
              rintro e w' ⟨rfl, ⟨nd, rfl⟩⟩
              refine ⟨_, rfl, ?_⟩
              refine hK.out _ _ ⟨((HB.out.cell (zW w _ hw116_0)).trans hw116_0), ((HB.out.cell (zW w _ hw116_1)).trans hw116_1), ((HB.out.cell (zW w _ hw116_2)).trans hw116_2), ((HB.out.cell (zW w _ hw122_0)).trans hw122_0), ((HB.out.cell (zW w _ hw122_1)).trans hw122_1), ((HB.out.cell (zW w _ hw122_2)).trans hw122_2)⟩ (fun hHeld => ?_)
              clear hK K
              refine norm_ (a' := ?_) ?_ ?_
              rotate_left
              ·show Act.put _ (some 71) _ = _
               simp only [Act.put, List.setIfInBounds_toArray, List.set_cons_zero, List.set_cons_succ, i64_w, i32_w]
               rfl
              refine pure_ (i := 10) (N := some 72) (v := ?_) (a' := ?_) #[true, true, true, true, true, true, true, true, true, true, true, false, false, false, false, true, true, true, true, false, false, false, false, false, false, true, true, true, true, true, true, false, false, false, false] rfl rfl (any_of HT_.out (by kernel_rfl)) (fun _ _ _ h => hQp _ _ _ _ (by rfl) h) (Or.inl ⟨by rfl, ?_⟩) ?_ ?_
              rotate_left
              ·intro w'
               go_simp
               with_reducible rfl
              rotate_left
              ·simp only [Act.put, List.setIfInBounds_toArray, List.set_cons_zero, List.set_cons_succ, i64_w, i32_w]
               rfl
              refine pure_ (i := 11) (N := some 73) (v := ?_) (a' := ?_) #[true, true, true, true, true, true, true, true, true, true, true, true, false, false, false, true, true, true, true, false, false, false, false, false, false, true, true, true, true, true, true, false, false, false, false] rfl rfl (any_of HT_.out (by kernel_rfl)) (fun _ _ _ h => hQp _ _ _ _ (by rfl) h) (Or.inl ⟨by rfl, ?_⟩) ?_ ?_
              rotate_left
              ·intro w'
               go_simp
               with_reducible rfl
              rotate_left
              ·simp only [Act.put, List.setIfInBounds_toArray, List.set_cons_zero, List.set_cons_succ, i64_w, i32_w]
               rfl
              refine pure_ (i := 12) (N := some 74) (v := ?_) (a' := ?_) #[true, true, true, true, true, true, true, true, true, true, true, true, true, false, false, true, true, true, true, false, false, false, false, false, false, true, true, true, true, true, true, false, false, false, false] rfl rfl (any_of HT_.out (by kernel_rfl)) (fun _ _ _ h => hQp _ _ _ _ (by rfl) h) (Or.inl ⟨by rfl, ?_⟩) ?_ ?_
              rotate_left
              ·intro w'
               go_simp
               with_reducible rfl
              rotate_left
              ·simp only [Act.put, List.setIfInBounds_toArray, List.set_cons_zero, List.set_cons_succ, i64_w, i32_w]
               rfl
              refine pure_ (i := 13) (N := some 75) (v := ?_) (a' := ?_) #[true, true, true, true, true, true, true, true, true, true, true, true, true, true, false, true, true, true, true, false, false, false, false, false, false, true, true, true, true, true, true, false, false, false, false] rfl rfl (any_of HT_.out (by kernel_rfl)) (fun _ _ _ h => hQp _ _ _ _ (by rfl) h) (Or.inl ⟨by rfl, ?_⟩) ?_ ?_
              rotate_left
              ·intro w'
               go_simp
               with_reducible rfl
              rotate_left
              ·simp only [Act.put, List.setIfInBounds_toArray, List.set_cons_zero, List.set_cons_succ, i64_w, i32_w]
               rfl
              refine pure_ (i := 14) (N := some 76) (v := ?_) (a' := ?_) #[true, true, true, true, true, true, true, true, true, true, true, true, true, true, true, true, true, true, true, false, false, false, false, false, false, true, true, true, true, true, true, false, false, false, false] rfl rfl (any_of HT_.out (by kernel_rfl)) (fun _ _ _ h => hQp _ _ _ _ (by rfl) h) (Or.inl ⟨by rfl, ?_⟩) ?_ ?_
              rotate_left
              ·intro w'
               go_simp
               with_reducible rfl
              rotate_left
              ·simp only [Act.put, List.setIfInBounds_toArray, List.set_cons_zero, List.set_cons_succ, i64_w, i32_w]
               rfl
              exact norm_ (by first | (simp only [putAll, Act.put, List.setIfInBounds_toArray, List.set_cons_zero, List.set_cons_succ]; done) | (simp only [putAll, Act.put, List.setIfInBounds_toArray, List.set_cons_zero, List.set_cons_succ]; rfl)) (hJ9_25 (v120) _ ⟨hHeld, (by (with_reducible repeat (first | apply zRa | apply zRn | apply zRd)); first | exact HO121.out | (subst_vars; exact HO121.out)), (by (with_reducible repeat (first | apply Kd.S_alloc | apply Kd.S_drewN | apply Kd.S_drew)); first | exact HO_15.out | (subst_vars; exact HO_15.out)), (by repeat (first | (with_reducible first | exact HB.out | apply zBa | apply zBn | apply zBd) | exact HB.out))⟩)
             ·skip
              refine box_step ?hg (N := 20) ?hd (cs := #[.bool false, .int .i64 0, .slice none 0 0]) (t := 54) ?hr ?_; (case hd => rfl); (case hg => rfl); (case hr => first | (go_simp; done) | (go_simp; rfl))
              intro gb126 hg w48 hbox hb
              have n0_ := Aside0.mk (Kd.S_below (Kd.S_elderB (by (with_reducible repeat (first | apply Kd.S_alloc | apply Kd.S_drewN | apply Kd.S_drew)); first | exact HO_15.out | (subst_vars; exact HO_15.out)) gb126 (Nat.le_of_eq hg.symm)) hb)
              have n1_ := Aside0.mk (Kd.R_below (by (with_reducible repeat (first | apply zRa | apply zRn | apply zRd)); first | exact HO121.out | (subst_vars; exact HO121.out)) hb)
              have n2_ := Aside0.mk (below_step (by repeat (first | (with_reducible first | exact HB.out | apply zBa | apply zBn | apply zBd) | exact HB.out)) hb)
              have n3_ := Aside0.mk (hbox)
              have n4_ := Aside0.mk ((by rw [hg]; exact (below_size (by repeat (first | (with_reducible first | exact HB.out | apply zBa | apply zBn | apply zBd) | exact HB.out))) : w.heap.size ≤ gb126))
              have n5_ := Aside0.mk ((by rw [hg]; exact (below_size (by repeat (first | (with_reducible first | exact HB.out | apply zBa | apply zBn | apply zBd) | exact HB.out))) : w.heap.size ≤ gb126))
              clear HO_15
              clear HO121
              clear HB
              have HO_15 := n0_
              have HO121 := n1_
              have HB := n2_
              have BK126 := n3_
              have GW126 := n4_
              have GE126 := n5_
              clear n0_ n1_ n2_ n3_ n4_ n5_
              clear hb hbox hg
              refine hK.out _ _ ⟨((HB.out.cell (zW w _ hw116_0)).trans hw116_0), ((HB.out.cell (zW w _ hw116_1)).trans hw116_1), ((HB.out.cell (zW w _ hw116_2)).trans hw116_2), ((HB.out.cell (zW w _ hw122_0)).trans hw122_0), ((HB.out.cell (zW w _ hw122_1)).trans hw122_1), ((HB.out.cell (zW w _ hw122_2)).trans hw122_2)⟩ (fun hHeld => ?_)
              clear hK K
              refine norm_ (a' := ?_) ?_ ?_
              rotate_left
              ·show Act.put _ (some 20) _ = _
               simp only [Act.put, List.setIfInBounds_toArray, List.set_cons_zero, List.set_cons_succ, i64_w, i32_w]
               rfl
              exact norm_ (by first | (simp only [putAll, Act.put, List.setIfInBounds_toArray, List.set_cons_zero, List.set_cons_succ]; done) | (simp only [putAll, Act.put, List.setIfInBounds_toArray, List.set_cons_zero, List.set_cons_succ]; rfl)) (hJ25_33 (v120, gb126) _ ⟨hHeld, (by (with_reducible repeat (first | apply zRa | apply zRn | apply zRd)); first | exact HO121.out | (subst_vars; exact HO121.out)), (by (with_reducible repeat (first | apply Kd.S_alloc | apply Kd.S_drewN | apply Kd.S_drew)); first | exact HO_15.out | (subst_vars; exact HO_15.out)), (by (with_reducible repeat (first | apply zNn | apply zNd | apply zNa)); exact BK126.out), GW126.out, GE126.out, (by repeat (first | (with_reducible first | exact HB.out | apply zBa | apply zBn | apply zBd | refine zBs ?_ GE126.out) | exact HB.out))⟩)
           ·skip
            rintro _ w45 ⟨hS_, h0_, h1_⟩
            have n0_ : Aside0 (Kd.S k54 54 w45 w.heap.size (fun _ => True) (.slice Ao18 x15_3.length co18) x15_3) := ⟨h0_⟩
            have n1_ : Aside0 (Below w.heap.size w w45) := ⟨h1_⟩
            clear HO_15
            clear HB
            clear h0_ h1_
            have HO_15 := n0_
            have HB := n1_
            clear n0_ n1_
            have hHeld : w45.cell? (ad116.add ((x17_2).toNat * 3)) = some (.bool ((rd_T54 l3 x17_2).f0)) ∧ w45.cell? ⟨(ad116.add ((x17_2).toNat * 3)).block, (ad116.add ((x17_2).toNat * 3)).off + 1, none⟩ = some (.int .i64 ((rd_T54 l3 x17_2).f1)) ∧ w45.cell? ⟨(ad116.add ((x17_2).toNat * 3)).block, (ad116.add ((x17_2).toNat * 3)).off + 2, none⟩ = some (.slice A116_2 ((rd_T54 l3 x17_2).f2).length c116_2) ∧ w45.cell? (ad116.add ((x17_2).toNat * 3)) = some (.bool ((rd_T54 l3 x17_2).f0)) ∧ w45.cell? ⟨(ad116.add ((x17_2).toNat * 3)).block, (ad116.add ((x17_2).toNat * 3)).off + 1, none⟩ = some (.int .i64 ((rd_T54 l3 x17_2).f1)) ∧ w45.cell? ⟨(ad116.add ((x17_2).toNat * 3)).block, (ad116.add ((x17_2).toNat * 3)).off + 2, none⟩ = some (.slice A116_2 ((rd_T54 l3 x17_2).f2).length c116_2) := hS_
            refine norm_ (a' := ?_) ?_ ?_
            rotate_left
            ·simp only [putAll, Act.put, List.setIfInBounds_toArray, List.set_cons_zero, List.set_cons_succ]
             rfl
            refine three_ (i := 19) (j := 25) (k := 33) (Ni := some 81) (Nj := some 87) (Nk := some 20) #[true, true, true, true, true, true, true, true, true, true, true, true, true, true, true, true, true, true, true, true, false, false, false, false, false, false, true, true, true, true, true, false, false, false, false] #[true, true, true, true, true, true, true, true, true, true, true, true, true, true, true, true, true, true, true, false, false, false, false, false, false, true, true, true, true, true, true, false, false, false, false] #[true, true, true, true, true, true, true, true, true, true, true, true, true, true, true, true, true, true, true, false, false, false, false, false, false, false, true, true, true, true, true, false, false, true, false] rfl rfl rfl rfl rfl rfl (three_of HT_.out (by kernel_rfl)) (by decide) (by decide) (by decide) (fun K hK => ?_) (fun K hK => ?_) (fun K hK => ?_)
            ·skip
             refine goes_ Try.func41 (by kernel_rfl) rfl #[.int .i64 (Go.bits .and .i64 (wrap64 ((wrap64 (2 * x17_2)) + x18_3)) a2)] (by rfl) rfl rfl (by (try simp only [List.map_toArray, List.map_cons, List.map_nil]); first | done | rfl | (simp only [List.length_drop, List.length_take]; rfl)) ?_
             with_reducible refine (spec_l14Ones.calls kj24 (Go.bits .and .i64 (wrap64 ((wrap64 (2 * x17_2)) + x18_3)) a2) t118 _ A31.out).mono ?_
             rintro e w' ⟨rfl, ⟨nd, rfl⟩⟩
             refine ⟨_, rfl, ?_⟩
             refine hK.out _ _ ⟨((HB.out.cell (zW w _ hw116_0)).trans hw116_0), ((HB.out.cell (zW w _ hw116_1)).trans hw116_1), ((HB.out.cell (zW w _ hw116_2)).trans hw116_2), ((HB.out.cell (zW w _ hw122_0)).trans hw122_0), ((HB.out.cell (zW w _ hw122_1)).trans hw122_1), ((HB.out.cell (zW w _ hw122_2)).trans hw122_2)⟩ (fun hHeld => ?_)
             clear hK K
             refine norm_ (a' := ?_) ?_ ?_
             rotate_left
             ·show Act.put _ (some 81) _ = _
              simp only [Act.put, List.setIfInBounds_toArray, List.set_cons_zero, List.set_cons_succ, i64_w, i32_w]
              rfl
             refine pure_ (i := 20) (N := some 82) (v := ?_) (a' := ?_) #[true, true, true, true, true, true, true, true, true, true, true, true, true, true, true, true, true, true, true, true, true, false, false, false, false, false, true, true, true, true, true, false, false, false, false] rfl rfl (any_of HT_.out (by kernel_rfl)) (fun _ _ _ h => hQp _ _ _ _ (by rfl) h) (Or.inl ⟨by rfl, ?_⟩) ?_ ?_
             rotate_left
             ·intro w'
              go_simp
              with_reducible rfl
             rotate_left
             ·simp only [Act.put, List.setIfInBounds_toArray, List.set_cons_zero, List.set_cons_succ, i64_w, i32_w]
              rfl
             refine pure_ (i := 21) (N := some 83) (v := ?_) (a' := ?_) #[true, true, true, true, true, true, true, true, true, true, true, true, true, true, true, true, true, true, true, true, true, true, false, false, false, false, true, true, true, true, true, false, false, false, false] rfl rfl (any_of HT_.out (by kernel_rfl)) (fun _ _ _ h => hQp _ _ _ _ (by rfl) h) (Or.inl ⟨by rfl, ?_⟩) ?_ ?_
             rotate_left
             ·intro w'
              go_simp
              with_reducible rfl
             rotate_left
             ·simp only [Act.put, List.setIfInBounds_toArray, List.set_cons_zero, List.set_cons_succ, i64_w, i32_w]
              rfl
             refine pure_ (i := 22) (N := some 84) (v := ?_) (a' := ?_) #[true, true, true, true, true, true, true, true, true, true, true, true, true, true, true, true, true, true, true, true, true, true, true, false, false, false, true, true, true, true, true, false, false, false, false] rfl rfl (any_of HT_.out (by kernel_rfl)) (fun _ _ _ h => hQp _ _ _ _ (by rfl) h) (Or.inl ⟨by rfl, ?_⟩) ?_ ?_
             rotate_left
             ·intro w'
              go_simp
              with_reducible rfl
             rotate_left
             ·simp only [Act.put, List.setIfInBounds_toArray, List.set_cons_zero, List.set_cons_succ, i64_w, i32_w]
              rfl
             refine pure_ (i := 23) (N := some 85) (v := ?_) (a' := ?_) #[true, true, true, true, true, true, true, true, true, true, true, true, true, true, true, true, true, true, true, true, true, true, true, true, false, false, true, true, true, true, true, false, false, false, false] rfl rfl (any_of HT_.out (by kernel_rfl)) (fun _ _ _ h => hQp _ _ _ _ (by rfl) h) (Or.inl ⟨by rfl, ?_⟩) ?_ ?_
             rotate_left
             ·intro w'
              go_simp
              with_reducible rfl
             rotate_left
             ·simp only [Act.put, List.setIfInBounds_toArray, List.set_cons_zero, List.set_cons_succ, i64_w, i32_w]
              rfl
             refine pure_ (i := 24) (N := some 86) (v := ?_) (a' := ?_) #[true, true, true, true, true, true, true, true, true, true, true, true, true, true, true, true, true, true, true, true, true, true, true, true, true, false, true, true, true, true, true, false, false, false, false] rfl rfl (any_of HT_.out (by kernel_rfl)) (fun _ _ _ h => hQp _ _ _ _ (by rfl) h) (Or.inl ⟨by rfl, ?_⟩) ?_ ?_
             rotate_left
             ·intro w'
              go_simp
              with_reducible rfl
             rotate_left
             ·simp only [Act.put, List.setIfInBounds_toArray, List.set_cons_zero, List.set_cons_succ, i64_w, i32_w]
              rfl
             exact norm_ (by first | (simp only [putAll, Act.put, List.setIfInBounds_toArray, List.set_cons_zero, List.set_cons_succ]; done) | (simp only [putAll, Act.put, List.setIfInBounds_toArray, List.set_cons_zero, List.set_cons_succ]; rfl)) (hJ9_19 () _ ⟨hHeld, (by (with_reducible repeat (first | apply Kd.S_alloc | apply Kd.S_drewN | apply Kd.S_drew)); first | exact HO_15.out | (subst_vars; exact HO_15.out)), (by repeat (first | (with_reducible first | exact HB.out | apply zBa | apply zBn | apply zBd) | exact HB.out))⟩)
            ·skip
             refine Kd.R_lit_step (Kd.int .i64) _ 3 ?hg (N := 87) ?hd (xs := ([] : List Int)) (inner := []) (ok := fun _ => True) (okp := fun _ => True) ?hr ?hp (fun _ hk => hk) trivial (Below.refl _ _) (Nat.le_refl _) (by simp) ?_; (case hd => rfl); (case hg => rfl); (case hr => first | (go_simp; done) | (go_simp; rfl)); (case hp => exact (Reps.none _ _))
             intro v120 w46 ho47 hb hg_ hnew_
             clear hg_ hnew_
             (first | rw [← Ny119.out] at ho47 | (simp only [Int.reduceToNat] at ho47; rw [← Ny119.out] at ho47))
             have n0_ := Aside0.mk (Kd.S_elder' (by (with_reducible repeat (first | apply Kd.S_alloc | apply Kd.S_drewN | apply Kd.S_drew)); first | exact HO_15.out | (subst_vars; exact HO_15.out)) (Kd.R_base ho47) hb)
             have n1_ := Aside0.mk (Kd.R_lower ho47 (below_size (by repeat (first | (with_reducible first | exact HB.out | apply zBa | apply zBn | apply zBd) | exact HB.out))))
             have n2_ := Aside0.mk (below_step (by repeat (first | (with_reducible first | exact HB.out | apply zBa | apply zBn | apply zBd) | exact HB.out)) hb)
             clear HO_15
             clear HB
             have HO_15 := n0_
             have HO121 := n1_
             have HB := n2_
             clear n0_ n1_ n2_
             clear hb ho47
             refine hK.out _ _ ⟨((HB.out.cell (zW w _ hw116_0)).trans hw116_0), ((HB.out.cell (zW w _ hw116_1)).trans hw116_1), ((HB.out.cell (zW w _ hw116_2)).trans hw116_2), ((HB.out.cell (zW w _ hw122_0)).trans hw122_0), ((HB.out.cell (zW w _ hw122_1)).trans hw122_1), ((HB.out.cell (zW w _ hw122_2)).trans hw122_2)⟩ (fun hHeld => ?_)
             clear hK K
             refine norm_ (a' := ?_) ?_ ?_
             rotate_left
             ·show Act.put _ (some 87) _ = _
              simp only [Act.put, List.setIfInBounds_toArray, List.set_cons_zero, List.set_cons_succ, i64_w, i32_w]
              rfl
             exact norm_ (by first | (simp only [putAll, Act.put, List.setIfInBounds_toArray, List.set_cons_zero, List.set_cons_succ]; done) | (simp only [putAll, Act.put, List.setIfInBounds_toArray, List.set_cons_zero, List.set_cons_succ]; rfl)) (hJ9_25 (v120) _ ⟨hHeld, (by (with_reducible repeat (first | apply zRa | apply zRn | apply zRd)); first | exact HO121.out | (subst_vars; exact HO121.out)), (by (with_reducible repeat (first | apply Kd.S_alloc | apply Kd.S_drewN | apply Kd.S_drew)); first | exact Kd.S_mono HO_15.out (fun _ hk => hk.2) | (subst_vars; exact Kd.S_mono HO_15.out (fun _ hk => hk.2))), (by repeat (first | (with_reducible first | exact HB.out | apply zBa | apply zBn | apply zBd) | exact HB.out))⟩)
            ·skip
             refine box_step ?hg (N := 20) ?hd (cs := #[.bool false, .int .i64 0, .slice none 0 0]) (t := 54) ?hr ?_; (case hd => rfl); (case hg => rfl); (case hr => first | (go_simp; done) | (go_simp; rfl))
             intro gb126 hg w46 hbox hb
             have n0_ := Aside0.mk (Kd.S_below (Kd.S_elderB (by (with_reducible repeat (first | apply Kd.S_alloc | apply Kd.S_drewN | apply Kd.S_drew)); first | exact HO_15.out | (subst_vars; exact HO_15.out)) gb126 (Nat.le_of_eq hg.symm)) hb)
             have n1_ := Aside0.mk (below_step (by repeat (first | (with_reducible first | exact HB.out | apply zBa | apply zBn | apply zBd) | exact HB.out)) hb)
             have n2_ := Aside0.mk (hbox)
             have n3_ := Aside0.mk ((by rw [hg]; exact (below_size (by repeat (first | (with_reducible first | exact HB.out | apply zBa | apply zBn | apply zBd) | exact HB.out))) : w.heap.size ≤ gb126))
             have n4_ := Aside0.mk ((by rw [hg]; exact (below_size (by repeat (first | (with_reducible first | exact HB.out | apply zBa | apply zBn | apply zBd) | exact HB.out))) : w.heap.size ≤ gb126))
             clear HO_15
             clear HB
             have HO_15 := n0_
             have HB := n1_
             have BK126 := n2_
             have GW126 := n3_
             have GE126 := n4_
             clear n0_ n1_ n2_ n3_ n4_
             clear hb hbox hg
             refine hK.out _ _ ⟨((HB.out.cell (zW w _ hw116_0)).trans hw116_0), ((HB.out.cell (zW w _ hw116_1)).trans hw116_1), ((HB.out.cell (zW w _ hw116_2)).trans hw116_2), ((HB.out.cell (zW w _ hw122_0)).trans hw122_0), ((HB.out.cell (zW w _ hw122_1)).trans hw122_1), ((HB.out.cell (zW w _ hw122_2)).trans hw122_2)⟩ (fun hHeld => ?_)
             clear hK K
             refine norm_ (a' := ?_) ?_ ?_
             rotate_left
             ·show Act.put _ (some 20) _ = _
              simp only [Act.put, List.setIfInBounds_toArray, List.set_cons_zero, List.set_cons_succ, i64_w, i32_w]
              rfl
             exact norm_ (by first | (simp only [putAll, Act.put, List.setIfInBounds_toArray, List.set_cons_zero, List.set_cons_succ]; done) | (simp only [putAll, Act.put, List.setIfInBounds_toArray, List.set_cons_zero, List.set_cons_succ]; rfl)) (hJ9_33 (gb126) _ ⟨hHeld, (by (with_reducible repeat (first | apply Kd.S_alloc | apply Kd.S_drewN | apply Kd.S_drew)); first | exact Kd.S_mono HO_15.out (fun _ hk => hk.2) | (subst_vars; exact Kd.S_mono HO_15.out (fun _ hk => hk.2))), (by (with_reducible repeat (first | apply zNn | apply zNd | apply zNa)); exact BK126.out), GW126.out, GE126.out, (by repeat (first | (with_reducible first | exact HB.out | apply zBa | apply zBn | apply zBd | refine zBs ?_ GE126.out) | exact HB.out))⟩)
          ·skip
           rintro ⟨v120, gb126⟩ w48 ⟨hS_, h0_, h1_, h2_, h3_, h4_, h5_⟩
           have n0_ : Aside0 (Kd.R (Kd.int .i64) 3 w48 w.heap.size (fun _ => True) v120 y119) := ⟨h0_⟩
           have n1_ : Aside0 (Kd.S k54 54 w48 w.heap.size (fun k_ => some k_ ≠ (v120 : Value).ownBlock ∧ k_ ≠ gb126) (.slice Ao18 x15_3.length co18) x15_3) := ⟨h1_⟩
           have n2_ : Aside0 (w48.heap[gb126]? = some (.cells #[.bool false, .int .i64 0, .slice none 0 0] 54 (0, 0))) := ⟨h2_⟩
           have n3_ : Aside0 (w.heap.size ≤ gb126) := ⟨h3_⟩
           have n4_ : Aside0 (w.heap.size ≤ gb126) := ⟨h4_⟩
           have n5_ : Aside0 (Below w.heap.size w w48) := ⟨h5_⟩
           clear HO_15
           clear HB
           clear h0_ h1_ h2_ h3_ h4_ h5_
           have HO121 := n0_
           have HO_15 := n1_
           have BK126 := n2_
           have GW126 := n3_
           have GE126 := n4_
           have HB := n5_
           clear n0_ n1_ n2_ n3_ n4_ n5_
           have hHeld : w48.cell? (ad116.add ((x17_2).toNat * 3)) = some (.bool ((rd_T54 l3 x17_2).f0)) ∧ w48.cell? ⟨(ad116.add ((x17_2).toNat * 3)).block, (ad116.add ((x17_2).toNat * 3)).off + 1, none⟩ = some (.int .i64 ((rd_T54 l3 x17_2).f1)) ∧ w48.cell? ⟨(ad116.add ((x17_2).toNat * 3)).block, (ad116.add ((x17_2).toNat * 3)).off + 2, none⟩ = some (.slice A116_2 ((rd_T54 l3 x17_2).f2).length c116_2) ∧ w48.cell? (ad116.add ((x17_2).toNat * 3)) = some (.bool ((rd_T54 l3 x17_2).f0)) ∧ w48.cell? ⟨(ad116.add ((x17_2).toNat * 3)).block, (ad116.add ((x17_2).toNat * 3)).off + 1, none⟩ = some (.int .i64 ((rd_T54 l3 x17_2).f1)) ∧ w48.cell? ⟨(ad116.add ((x17_2).toNat * 3)).block, (ad116.add ((x17_2).toNat * 3)).off + 2, none⟩ = some (.slice A116_2 ((rd_T54 l3 x17_2).f2).length c116_2) := hS_
           refine norm_ (a' := ?_) ?_ ?_
           rotate_left
           ·simp only [putAll, Act.put, List.setIfInBounds_toArray, List.set_cons_zero, List.set_cons_succ]
            rfl
           refine one_ (i := 9) (N := some 71) #[true, true, true, true, true, true, true, true, true, true, false, false, false, false, false, true, true, true, true, false, false, false, false, false, false, true, true, true, true, true, true, false, false, true, false] rfl rfl (one_of HT_.out (by kernel_rfl)) (by decide) (fun K hK => ?_)
           refine goes_ Try.func41 (by kernel_rfl) rfl #[.int .i64 (Go.bits .and .i64 (wrap64 ((wrap64 (2 * x17_2)) + x18_3)) a1)] (by rfl) rfl rfl (by (try simp only [List.map_toArray, List.map_cons, List.map_nil]); first | done | rfl | (simp only [List.length_drop, List.length_take]; rfl)) ?_
           with_reducible refine (spec_l14Ones.calls kj24 (Go.bits .and .i64 (wrap64 ((wrap64 (2 * x17_2)) + x18_3)) a1) t117 _ A30.out).mono ?_
           rintro e w' ⟨rfl, ⟨nd, rfl⟩⟩
           refine ⟨_, rfl, ?_⟩
           refine hK.out _ _ ⟨((HB.out.cell (zW w _ hw116_0)).trans hw116_0), ((HB.out.cell (zW w _ hw116_1)).trans hw116_1), ((HB.out.cell (zW w _ hw116_2)).trans hw116_2), ((HB.out.cell (zW w _ hw122_0)).trans hw122_0), ((HB.out.cell (zW w _ hw122_1)).trans hw122_1), ((HB.out.cell (zW w _ hw122_2)).trans hw122_2)⟩ (fun hHeld => ?_)
           clear hK K
           refine norm_ (a' := ?_) ?_ ?_
           rotate_left
           ·show Act.put _ (some 71) _ = _
            simp only [Act.put, List.setIfInBounds_toArray, List.set_cons_zero, List.set_cons_succ, i64_w, i32_w]
            rfl
           refine pure_ (i := 10) (N := some 72) (v := ?_) (a' := ?_) #[true, true, true, true, true, true, true, true, true, true, true, false, false, false, false, true, true, true, true, false, false, false, false, false, false, true, true, true, true, true, true, false, false, true, false] rfl rfl (any_of HT_.out (by kernel_rfl)) (fun _ _ _ h => hQp _ _ _ _ (by rfl) h) (Or.inl ⟨by rfl, ?_⟩) ?_ ?_
           rotate_left
           ·intro w'
            go_simp
            with_reducible rfl
           rotate_left
           ·simp only [Act.put, List.setIfInBounds_toArray, List.set_cons_zero, List.set_cons_succ, i64_w, i32_w]
            rfl
           refine pure_ (i := 11) (N := some 73) (v := ?_) (a' := ?_) #[true, true, true, true, true, true, true, true, true, true, true, true, false, false, false, true, true, true, true, false, false, false, false, false, false, true, true, true, true, true, true, false, false, true, false] rfl rfl (any_of HT_.out (by kernel_rfl)) (fun _ _ _ h => hQp _ _ _ _ (by rfl) h) (Or.inl ⟨by rfl, ?_⟩) ?_ ?_
           rotate_left
           ·intro w'
            go_simp
            with_reducible rfl
           rotate_left
           ·simp only [Act.put, List.setIfInBounds_toArray, List.set_cons_zero, List.set_cons_succ, i64_w, i32_w]
            rfl
           refine pure_ (i := 12) (N := some 74) (v := ?_) (a' := ?_) #[true, true, true, true, true, true, true, true, true, true, true, true, true, false, false, true, true, true, true, false, false, false, false, false, false, true, true, true, true, true, true, false, false, true, false] rfl rfl (any_of HT_.out (by kernel_rfl)) (fun _ _ _ h => hQp _ _ _ _ (by rfl) h) (Or.inl ⟨by rfl, ?_⟩) ?_ ?_
           rotate_left
           ·intro w'
            go_simp
            with_reducible rfl
           rotate_left
           ·simp only [Act.put, List.setIfInBounds_toArray, List.set_cons_zero, List.set_cons_succ, i64_w, i32_w]
            rfl
           refine pure_ (i := 13) (N := some 75) (v := ?_) (a' := ?_) #[true, true, true, true, true, true, true, true, true, true, true, true, true, true, false, true, true, true, true, false, false, false, false, false, false, true, true, true, true, true, true, false, false, true, false] rfl rfl (any_of HT_.out (by kernel_rfl)) (fun _ _ _ h => hQp _ _ _ _ (by rfl) h) (Or.inl ⟨by rfl, ?_⟩) ?_ ?_
           rotate_left
           ·intro w'
            go_simp
            with_reducible rfl
           rotate_left
           ·simp only [Act.put, List.setIfInBounds_toArray, List.set_cons_zero, List.set_cons_succ, i64_w, i32_w]
            rfl
           refine pure_ (i := 14) (N := some 76) (v := ?_) (a' := ?_) #[true, true, true, true, true, true, true, true, true, true, true, true, true, true, true, true, true, true, true, false, false, false, false, false, false, true, true, true, true, true, true, false, false, true, false] rfl rfl (any_of HT_.out (by kernel_rfl)) (fun _ _ _ h => hQp _ _ _ _ (by rfl) h) (Or.inl ⟨by rfl, ?_⟩) ?_ ?_
           rotate_left
           ·intro w'
            go_simp
            with_reducible rfl
           rotate_left
           ·simp only [Act.put, List.setIfInBounds_toArray, List.set_cons_zero, List.set_cons_succ, i64_w, i32_w]
            rfl
           exact norm_ (by first | (simp only [putAll, Act.put, List.setIfInBounds_toArray, List.set_cons_zero, List.set_cons_succ]; done) | (simp only [putAll, Act.put, List.setIfInBounds_toArray, List.set_cons_zero, List.set_cons_succ]; rfl)) (hJ9_25_33 (v120, gb126) _ ⟨hHeld, (by (with_reducible repeat (first | apply zRa | apply zRn | apply zRd)); first | exact HO121.out | (subst_vars; exact HO121.out)), (by (with_reducible repeat (first | apply Kd.S_alloc | apply Kd.S_drewN | apply Kd.S_drew)); first | exact HO_15.out | (subst_vars; exact HO_15.out)), (by (with_reducible repeat (first | apply zNn | apply zNd | apply zNa)); exact BK126.out), GW126.out, GE126.out, (by repeat (first | (with_reducible first | exact HB.out | apply zBa | apply zBn | apply zBd | refine zBs ?_ GE126.out) | exact HB.out))⟩)
         ·skip
          rintro gb126 w46 ⟨hS_, h0_, h1_, h2_, h3_, h4_⟩
          have n0_ : Aside0 (Kd.S k54 54 w46 w.heap.size (fun k_ => k_ ≠ gb126) (.slice Ao18 x15_3.length co18) x15_3) := ⟨h0_⟩
          have n1_ : Aside0 (w46.heap[gb126]? = some (.cells #[.bool false, .int .i64 0, .slice none 0 0] 54 (0, 0))) := ⟨h1_⟩
          have n2_ : Aside0 (w.heap.size ≤ gb126) := ⟨h2_⟩
          have n3_ : Aside0 (w.heap.size ≤ gb126) := ⟨h3_⟩
          have n4_ : Aside0 (Below w.heap.size w w46) := ⟨h4_⟩
          clear HO_15
          clear HB
          clear h0_ h1_ h2_ h3_ h4_
          have HO_15 := n0_
          have BK126 := n1_
          have GW126 := n2_
          have GE126 := n3_
          have HB := n4_
          clear n0_ n1_ n2_ n3_ n4_
          have hHeld : w46.cell? (ad116.add ((x17_2).toNat * 3)) = some (.bool ((rd_T54 l3 x17_2).f0)) ∧ w46.cell? ⟨(ad116.add ((x17_2).toNat * 3)).block, (ad116.add ((x17_2).toNat * 3)).off + 1, none⟩ = some (.int .i64 ((rd_T54 l3 x17_2).f1)) ∧ w46.cell? ⟨(ad116.add ((x17_2).toNat * 3)).block, (ad116.add ((x17_2).toNat * 3)).off + 2, none⟩ = some (.slice A116_2 ((rd_T54 l3 x17_2).f2).length c116_2) ∧ w46.cell? (ad116.add ((x17_2).toNat * 3)) = some (.bool ((rd_T54 l3 x17_2).f0)) ∧ w46.cell? ⟨(ad116.add ((x17_2).toNat * 3)).block, (ad116.add ((x17_2).toNat * 3)).off + 1, none⟩ = some (.int .i64 ((rd_T54 l3 x17_2).f1)) ∧ w46.cell? ⟨(ad116.add ((x17_2).toNat * 3)).block, (ad116.add ((x17_2).toNat * 3)).off + 2, none⟩ = some (.slice A116_2 ((rd_T54 l3 x17_2).f2).length c116_2) := hS_
          refine norm_ (a' := ?_) ?_ ?_
          rotate_left
          ·simp only [putAll, Act.put, List.setIfInBounds_toArray, List.set_cons_zero, List.set_cons_succ]
           rfl
          refine two_ (i := 19) (j := 25) (Ni := some 81) (Nj := some 87) #[true, true, true, true, true, true, true, true, true, true, true, true, true, true, true, true, true, true, true, true, false, false, false, false, false, false, true, true, true, true, true, false, false, true, false] #[true, true, true, true, true, true, true, true, true, true, true, true, true, true, true, true, true, true, true, false, false, false, false, false, false, true, true, true, true, true, true, false, false, true, false] rfl rfl rfl rfl (two_of HT_.out (by kernel_rfl)) (by decide) (by decide) (fun K hK => ?_) (fun K hK => ?_)
          ·skip
           refine goes_ Try.func41 (by kernel_rfl) rfl #[.int .i64 (Go.bits .and .i64 (wrap64 ((wrap64 (2 * x17_2)) + x18_3)) a2)] (by rfl) rfl rfl (by (try simp only [List.map_toArray, List.map_cons, List.map_nil]); first | done | rfl | (simp only [List.length_drop, List.length_take]; rfl)) ?_
           with_reducible refine (spec_l14Ones.calls kj24 (Go.bits .and .i64 (wrap64 ((wrap64 (2 * x17_2)) + x18_3)) a2) t118 _ A31.out).mono ?_
           rintro e w' ⟨rfl, ⟨nd, rfl⟩⟩
           refine ⟨_, rfl, ?_⟩
           refine hK.out _ _ ⟨((HB.out.cell (zW w _ hw116_0)).trans hw116_0), ((HB.out.cell (zW w _ hw116_1)).trans hw116_1), ((HB.out.cell (zW w _ hw116_2)).trans hw116_2), ((HB.out.cell (zW w _ hw122_0)).trans hw122_0), ((HB.out.cell (zW w _ hw122_1)).trans hw122_1), ((HB.out.cell (zW w _ hw122_2)).trans hw122_2)⟩ (fun hHeld => ?_)
           clear hK K
           refine norm_ (a' := ?_) ?_ ?_
           rotate_left
           ·show Act.put _ (some 81) _ = _
            simp only [Act.put, List.setIfInBounds_toArray, List.set_cons_zero, List.set_cons_succ, i64_w, i32_w]
            rfl
           refine pure_ (i := 20) (N := some 82) (v := ?_) (a' := ?_) #[true, true, true, true, true, true, true, true, true, true, true, true, true, true, true, true, true, true, true, true, true, false, false, false, false, false, true, true, true, true, true, false, false, true, false] rfl rfl (any_of HT_.out (by kernel_rfl)) (fun _ _ _ h => hQp _ _ _ _ (by rfl) h) (Or.inl ⟨by rfl, ?_⟩) ?_ ?_
           rotate_left
           ·intro w'
            go_simp
            with_reducible rfl
           rotate_left
           ·simp only [Act.put, List.setIfInBounds_toArray, List.set_cons_zero, List.set_cons_succ, i64_w, i32_w]
            rfl
           refine pure_ (i := 21) (N := some 83) (v := ?_) (a' := ?_) #[true, true, true, true, true, true, true, true, true, true, true, true, true, true, true, true, true, true, true, true, true, true, false, false, false, false, true, true, true, true, true, false, false, true, false] rfl rfl (any_of HT_.out (by kernel_rfl)) (fun _ _ _ h => hQp _ _ _ _ (by rfl) h) (Or.inl ⟨by rfl, ?_⟩) ?_ ?_
           rotate_left
           ·intro w'
            go_simp
            with_reducible rfl
           rotate_left
           ·simp only [Act.put, List.setIfInBounds_toArray, List.set_cons_zero, List.set_cons_succ, i64_w, i32_w]
            rfl
           refine pure_ (i := 22) (N := some 84) (v := ?_) (a' := ?_) #[true, true, true, true, true, true, true, true, true, true, true, true, true, true, true, true, true, true, true, true, true, true, true, false, false, false, true, true, true, true, true, false, false, true, false] rfl rfl (any_of HT_.out (by kernel_rfl)) (fun _ _ _ h => hQp _ _ _ _ (by rfl) h) (Or.inl ⟨by rfl, ?_⟩) ?_ ?_
           rotate_left
           ·intro w'
            go_simp
            with_reducible rfl
           rotate_left
           ·simp only [Act.put, List.setIfInBounds_toArray, List.set_cons_zero, List.set_cons_succ, i64_w, i32_w]
            rfl
           refine pure_ (i := 23) (N := some 85) (v := ?_) (a' := ?_) #[true, true, true, true, true, true, true, true, true, true, true, true, true, true, true, true, true, true, true, true, true, true, true, true, false, false, true, true, true, true, true, false, false, true, false] rfl rfl (any_of HT_.out (by kernel_rfl)) (fun _ _ _ h => hQp _ _ _ _ (by rfl) h) (Or.inl ⟨by rfl, ?_⟩) ?_ ?_
           rotate_left
           ·intro w'
            go_simp
            with_reducible rfl
           rotate_left
           ·simp only [Act.put, List.setIfInBounds_toArray, List.set_cons_zero, List.set_cons_succ, i64_w, i32_w]
            rfl
           refine pure_ (i := 24) (N := some 86) (v := ?_) (a' := ?_) #[true, true, true, true, true, true, true, true, true, true, true, true, true, true, true, true, true, true, true, true, true, true, true, true, true, false, true, true, true, true, true, false, false, true, false] rfl rfl (any_of HT_.out (by kernel_rfl)) (fun _ _ _ h => hQp _ _ _ _ (by rfl) h) (Or.inl ⟨by rfl, ?_⟩) ?_ ?_
           rotate_left
           ·intro w'
            go_simp
            with_reducible rfl
           rotate_left
           ·simp only [Act.put, List.setIfInBounds_toArray, List.set_cons_zero, List.set_cons_succ, i64_w, i32_w]
            rfl
           exact norm_ (by first | (simp only [putAll, Act.put, List.setIfInBounds_toArray, List.set_cons_zero, List.set_cons_succ]; done) | (simp only [putAll, Act.put, List.setIfInBounds_toArray, List.set_cons_zero, List.set_cons_succ]; rfl)) (hJ9_19_33 (gb126) _ ⟨hHeld, (by (with_reducible repeat (first | apply Kd.S_alloc | apply Kd.S_drewN | apply Kd.S_drew)); first | exact HO_15.out | (subst_vars; exact HO_15.out)), (by (with_reducible repeat (first | apply zNn | apply zNd | apply zNa)); exact BK126.out), GW126.out, GE126.out, (by repeat (first | (with_reducible first | exact HB.out | apply zBa | apply zBn | apply zBd | refine zBs ?_ GE126.out) | exact HB.out))⟩)
          ·skip
           refine Kd.R_lit_step (Kd.int .i64) _ 3 ?hg (N := 87) ?hd (xs := ([] : List Int)) (inner := []) (ok := fun _ => True) (okp := fun _ => True) ?hr ?hp (fun _ hk => hk) trivial (Below.refl _ _) (Nat.le_refl _) (by simp) ?_; (case hd => rfl); (case hg => rfl); (case hr => first | (go_simp; done) | (go_simp; rfl)); (case hp => exact (Reps.none _ _))
           intro v120 w47 ho48 hb hg_ hnew_
           clear hg_ hnew_
           (first | rw [← Ny119.out] at ho48 | (simp only [Int.reduceToNat] at ho48; rw [← Ny119.out] at ho48))
           have n0_ := Aside0.mk (Kd.S_elder' (by (with_reducible repeat (first | apply Kd.S_alloc | apply Kd.S_drewN | apply Kd.S_drew)); first | exact HO_15.out | (subst_vars; exact HO_15.out)) (Kd.R_base ho48) hb)
           have n1_ := Aside0.mk (Kd.R_lower ho48 (below_size (by repeat (first | (with_reducible first | exact HB.out | apply zBa | apply zBn | apply zBd | refine zBs ?_ GE126.out) | exact HB.out))))
           have n2_ := Aside0.mk (zNb (g := gb126) (o := .cells #[.bool false, .int .i64 0, .slice none 0 0] 54 (0, 0)) (by (with_reducible repeat (first | apply zNn | apply zNd | apply zNa)); exact BK126.out) hb)
           have n3_ := Aside0.mk (below_step (by repeat (first | (with_reducible first | exact HB.out | apply zBa | apply zBn | apply zBd | refine zBs ?_ GE126.out) | exact HB.out)) hb)
           clear HO_15
           clear BK126
           clear HB
           have HO_15 := n0_
           have HO121 := n1_
           have BK126 := n2_
           have HB := n3_
           clear n0_ n1_ n2_ n3_
           clear hb ho48
           refine hK.out _ _ ⟨((HB.out.cell (zW w _ hw116_0)).trans hw116_0), ((HB.out.cell (zW w _ hw116_1)).trans hw116_1), ((HB.out.cell (zW w _ hw116_2)).trans hw116_2), ((HB.out.cell (zW w _ hw122_0)).trans hw122_0), ((HB.out.cell (zW w _ hw122_1)).trans hw122_1), ((HB.out.cell (zW w _ hw122_2)).trans hw122_2)⟩ (fun hHeld => ?_)
           clear hK K
           refine norm_ (a' := ?_) ?_ ?_
           rotate_left
           ·show Act.put _ (some 87) _ = _
            simp only [Act.put, List.setIfInBounds_toArray, List.set_cons_zero, List.set_cons_succ, i64_w, i32_w]
            rfl
           exact norm_ (by first | (simp only [putAll, Act.put, List.setIfInBounds_toArray, List.set_cons_zero, List.set_cons_succ]; done) | (simp only [putAll, Act.put, List.setIfInBounds_toArray, List.set_cons_zero, List.set_cons_succ]; rfl)) (hJ9_25_33 (v120, gb126) _ ⟨hHeld, (by (with_reducible repeat (first | apply zRa | apply zRn | apply zRd)); first | exact HO121.out | (subst_vars; exact HO121.out)), (by (with_reducible repeat (first | apply Kd.S_alloc | apply Kd.S_drewN | apply Kd.S_drew)); first | exact Kd.S_mono HO_15.out (fun _ hk => ⟨hk.2, hk.1⟩) | (subst_vars; exact Kd.S_mono HO_15.out (fun _ hk => ⟨hk.2, hk.1⟩))), (by (with_reducible repeat (first | apply zNn | apply zNd | apply zNa)); exact BK126.out), GW126.out, GE126.out, (by repeat (first | (with_reducible first | exact HB.out | apply zBa | apply zBn | apply zBd | refine zBs ?_ GE126.out) | exact HB.out))⟩)
        ·skip
         rintro v120 w47 ⟨hS_, h0_, h1_, h2_⟩
         have n0_ : Aside0 (Kd.R (Kd.int .i64) 3 w47 w.heap.size (fun _ => True) v120 y119) := ⟨h0_⟩
         have n1_ : Aside0 (Kd.S k54 54 w47 w.heap.size (fun k_ => some k_ ≠ (v120 : Value).ownBlock) (.slice Ao18 x15_3.length co18) x15_3) := ⟨h1_⟩
         have n2_ : Aside0 (Below w.heap.size w w47) := ⟨h2_⟩
         clear HO_15
         clear HB
         clear h0_ h1_ h2_
         have HO121 := n0_
         have HO_15 := n1_
         have HB := n2_
         clear n0_ n1_ n2_
         have hHeld : w47.cell? (ad116.add ((x17_2).toNat * 3)) = some (.bool ((rd_T54 l3 x17_2).f0)) ∧ w47.cell? ⟨(ad116.add ((x17_2).toNat * 3)).block, (ad116.add ((x17_2).toNat * 3)).off + 1, none⟩ = some (.int .i64 ((rd_T54 l3 x17_2).f1)) ∧ w47.cell? ⟨(ad116.add ((x17_2).toNat * 3)).block, (ad116.add ((x17_2).toNat * 3)).off + 2, none⟩ = some (.slice A116_2 ((rd_T54 l3 x17_2).f2).length c116_2) ∧ w47.cell? (ad116.add ((x17_2).toNat * 3)) = some (.bool ((rd_T54 l3 x17_2).f0)) ∧ w47.cell? ⟨(ad116.add ((x17_2).toNat * 3)).block, (ad116.add ((x17_2).toNat * 3)).off + 1, none⟩ = some (.int .i64 ((rd_T54 l3 x17_2).f1)) ∧ w47.cell? ⟨(ad116.add ((x17_2).toNat * 3)).block, (ad116.add ((x17_2).toNat * 3)).off + 2, none⟩ = some (.slice A116_2 ((rd_T54 l3 x17_2).f2).length c116_2) := hS_
         refine norm_ (a' := ?_) ?_ ?_
         rotate_left
         ·simp only [putAll, Act.put, List.setIfInBounds_toArray, List.set_cons_zero, List.set_cons_succ]
          rfl
         refine two_ (i := 19) (j := 33) (Ni := some 81) (Nj := some 20) #[true, true, true, true, true, true, true, true, true, true, true, true, true, true, true, true, true, true, true, true, false, false, false, false, false, true, true, true, true, true, true, false, false, false, false] #[true, true, true, true, true, true, true, true, true, true, true, true, true, true, true, true, true, true, true, false, false, false, false, false, false, true, true, true, true, true, true, false, false, true, false] rfl rfl rfl rfl (two_of HT_.out (by kernel_rfl)) (by decide) (by decide) (fun K hK => ?_) (fun K hK => ?_)
         ·skip
          refine goes_ Try.func41 (by kernel_rfl) rfl #[.int .i64 (Go.bits .and .i64 (wrap64 ((wrap64 (2 * x17_2)) + x18_3)) a2)] (by rfl) rfl rfl (by (try simp only [List.map_toArray, List.map_cons, List.map_nil]); first | done | rfl | (simp only [List.length_drop, List.length_take]; rfl)) ?_
          with_reducible refine (spec_l14Ones.calls kj24 (Go.bits .and .i64 (wrap64 ((wrap64 (2 * x17_2)) + x18_3)) a2) t118 _ A31.out).mono ?_
          rintro e w' ⟨rfl, ⟨nd, rfl⟩⟩
          refine ⟨_, rfl, ?_⟩
          refine hK.out _ _ ⟨((HB.out.cell (zW w _ hw116_0)).trans hw116_0), ((HB.out.cell (zW w _ hw116_1)).trans hw116_1), ((HB.out.cell (zW w _ hw116_2)).trans hw116_2), ((HB.out.cell (zW w _ hw122_0)).trans hw122_0), ((HB.out.cell (zW w _ hw122_1)).trans hw122_1), ((HB.out.cell (zW w _ hw122_2)).trans hw122_2)⟩ (fun hHeld => ?_)
          clear hK K
          refine norm_ (a' := ?_) ?_ ?_
          rotate_left
          ·show Act.put _ (some 81) _ = _
           simp only [Act.put, List.setIfInBounds_toArray, List.set_cons_zero, List.set_cons_succ, i64_w, i32_w]
           rfl
          refine pure_ (i := 20) (N := some 82) (v := ?_) (a' := ?_) #[true, true, true, true, true, true, true, true, true, true, true, true, true, true, true, true, true, true, true, true, true, false, false, false, false, true, true, true, true, true, true, false, false, false, false] rfl rfl (any_of HT_.out (by kernel_rfl)) (fun _ _ _ h => hQp _ _ _ _ (by rfl) h) (Or.inl ⟨by rfl, ?_⟩) ?_ ?_
          rotate_left
          ·intro w'
           go_simp
           with_reducible rfl
          rotate_left
          ·simp only [Act.put, List.setIfInBounds_toArray, List.set_cons_zero, List.set_cons_succ, i64_w, i32_w]
           rfl
          refine pure_ (i := 21) (N := some 83) (v := ?_) (a' := ?_) #[true, true, true, true, true, true, true, true, true, true, true, true, true, true, true, true, true, true, true, true, true, true, false, false, false, true, true, true, true, true, true, false, false, false, false] rfl rfl (any_of HT_.out (by kernel_rfl)) (fun _ _ _ h => hQp _ _ _ _ (by rfl) h) (Or.inl ⟨by rfl, ?_⟩) ?_ ?_
          rotate_left
          ·intro w'
           go_simp
           with_reducible rfl
          rotate_left
          ·simp only [Act.put, List.setIfInBounds_toArray, List.set_cons_zero, List.set_cons_succ, i64_w, i32_w]
           rfl
          refine pure_ (i := 22) (N := some 84) (v := ?_) (a' := ?_) #[true, true, true, true, true, true, true, true, true, true, true, true, true, true, true, true, true, true, true, true, true, true, true, false, false, true, true, true, true, true, true, false, false, false, false] rfl rfl (any_of HT_.out (by kernel_rfl)) (fun _ _ _ h => hQp _ _ _ _ (by rfl) h) (Or.inl ⟨by rfl, ?_⟩) ?_ ?_
          rotate_left
          ·intro w'
           go_simp
           with_reducible rfl
          rotate_left
          ·simp only [Act.put, List.setIfInBounds_toArray, List.set_cons_zero, List.set_cons_succ, i64_w, i32_w]
           rfl
          refine pure_ (i := 23) (N := some 85) (v := ?_) (a' := ?_) #[true, true, true, true, true, true, true, true, true, true, true, true, true, true, true, true, true, true, true, true, true, true, true, true, false, true, true, true, true, true, true, false, false, false, false] rfl rfl (any_of HT_.out (by kernel_rfl)) (fun _ _ _ h => hQp _ _ _ _ (by rfl) h) (Or.inl ⟨by rfl, ?_⟩) ?_ ?_
          rotate_left
          ·intro w'
           go_simp
           with_reducible rfl
          rotate_left
          ·simp only [Act.put, List.setIfInBounds_toArray, List.set_cons_zero, List.set_cons_succ, i64_w, i32_w]
           rfl
          refine pure_ (i := 24) (N := some 86) (v := ?_) (a' := ?_) #[true, true, true, true, true, true, true, true, true, true, true, true, true, true, true, true, true, true, true, true, true, true, true, true, true, true, true, true, true, true, true, false, false, false, false] rfl rfl (any_of HT_.out (by kernel_rfl)) (fun _ _ _ h => hQp _ _ _ _ (by rfl) h) (Or.inl ⟨by rfl, ?_⟩) ?_ ?_
          rotate_left
          ·intro w'
           go_simp
           with_reducible rfl
          rotate_left
          ·simp only [Act.put, List.setIfInBounds_toArray, List.set_cons_zero, List.set_cons_succ, i64_w, i32_w]
           rfl
          exact norm_ (by first | (simp only [putAll, Act.put, List.setIfInBounds_toArray, List.set_cons_zero, List.set_cons_succ]; done) | (simp only [putAll, Act.put, List.setIfInBounds_toArray, List.set_cons_zero, List.set_cons_succ]; rfl)) (hJ9_19_25 (v120) _ ⟨hHeld, (by (with_reducible repeat (first | apply zRa | apply zRn | apply zRd)); first | exact HO121.out | (subst_vars; exact HO121.out)), (by (with_reducible repeat (first | apply Kd.S_alloc | apply Kd.S_drewN | apply Kd.S_drew)); first | exact HO_15.out | (subst_vars; exact HO_15.out)), (by repeat (first | (with_reducible first | exact HB.out | apply zBa | apply zBn | apply zBd) | exact HB.out))⟩)
         ·skip
          refine box_step ?hg (N := 20) ?hd (cs := #[.bool false, .int .i64 0, .slice none 0 0]) (t := 54) ?hr ?_; (case hd => rfl); (case hg => rfl); (case hr => first | (go_simp; done) | (go_simp; rfl))
          intro gb126 hg w48 hbox hb
          have n0_ := Aside0.mk (Kd.S_below (Kd.S_elderB (by (with_reducible repeat (first | apply Kd.S_alloc | apply Kd.S_drewN | apply Kd.S_drew)); first | exact HO_15.out | (subst_vars; exact HO_15.out)) gb126 (Nat.le_of_eq hg.symm)) hb)
          have n1_ := Aside0.mk (Kd.R_below (by (with_reducible repeat (first | apply zRa | apply zRn | apply zRd)); first | exact HO121.out | (subst_vars; exact HO121.out)) hb)
          have n2_ := Aside0.mk (below_step (by repeat (first | (with_reducible first | exact HB.out | apply zBa | apply zBn | apply zBd) | exact HB.out)) hb)
          have n3_ := Aside0.mk (hbox)
          have n4_ := Aside0.mk ((by rw [hg]; exact (below_size (by repeat (first | (with_reducible first | exact HB.out | apply zBa | apply zBn | apply zBd) | exact HB.out))) : w.heap.size ≤ gb126))
          have n5_ := Aside0.mk ((by rw [hg]; exact (below_size (by repeat (first | (with_reducible first | exact HB.out | apply zBa | apply zBn | apply zBd) | exact HB.out))) : w.heap.size ≤ gb126))
          clear HO_15
          clear HO121
          clear HB
          have HO_15 := n0_
          have HO121 := n1_
          have HB := n2_
          have BK126 := n3_
          have GW126 := n4_
          have GE126 := n5_
          clear n0_ n1_ n2_ n3_ n4_ n5_
          clear hb hbox hg
          refine hK.out _ _ ⟨((HB.out.cell (zW w _ hw116_0)).trans hw116_0), ((HB.out.cell (zW w _ hw116_1)).trans hw116_1), ((HB.out.cell (zW w _ hw116_2)).trans hw116_2), ((HB.out.cell (zW w _ hw122_0)).trans hw122_0), ((HB.out.cell (zW w _ hw122_1)).trans hw122_1), ((HB.out.cell (zW w _ hw122_2)).trans hw122_2)⟩ (fun hHeld => ?_)
          clear hK K
          refine norm_ (a' := ?_) ?_ ?_
          rotate_left
          ·show Act.put _ (some 20) _ = _
           simp only [Act.put, List.setIfInBounds_toArray, List.set_cons_zero, List.set_cons_succ, i64_w, i32_w]
           rfl
          exact norm_ (by first | (simp only [putAll, Act.put, List.setIfInBounds_toArray, List.set_cons_zero, List.set_cons_succ]; done) | (simp only [putAll, Act.put, List.setIfInBounds_toArray, List.set_cons_zero, List.set_cons_succ]; rfl)) (hJ9_25_33 (v120, gb126) _ ⟨hHeld, (by (with_reducible repeat (first | apply zRa | apply zRn | apply zRd)); first | exact HO121.out | (subst_vars; exact HO121.out)), (by (with_reducible repeat (first | apply Kd.S_alloc | apply Kd.S_drewN | apply Kd.S_drew)); first | exact HO_15.out | (subst_vars; exact HO_15.out)), (by (with_reducible repeat (first | apply zNn | apply zNd | apply zNa)); exact BK126.out), GW126.out, GE126.out, (by repeat (first | (with_reducible first | exact HB.out | apply zBa | apply zBn | apply zBd | refine zBs ?_ GE126.out) | exact HB.out))⟩)
       ·skip
        rintro _ w45 ⟨hS_, h0_, h1_⟩
        have n0_ : Aside0 (Kd.S k54 54 w45 w.heap.size (fun _ => True) (.slice Ao18 x15_3.length co18) x15_3) := ⟨h0_⟩
        have n1_ : Aside0 (Below w.heap.size w w45) := ⟨h1_⟩
        clear HO_15
        clear HB
        clear h0_ h1_
        have HO_15 := n0_
        have HB := n1_
        clear n0_ n1_
        have hHeld : w45.cell? (ad116.add ((x17_2).toNat * 3)) = some (.bool ((rd_T54 l3 x17_2).f0)) ∧ w45.cell? ⟨(ad116.add ((x17_2).toNat * 3)).block, (ad116.add ((x17_2).toNat * 3)).off + 1, none⟩ = some (.int .i64 ((rd_T54 l3 x17_2).f1)) ∧ w45.cell? ⟨(ad116.add ((x17_2).toNat * 3)).block, (ad116.add ((x17_2).toNat * 3)).off + 2, none⟩ = some (.slice A116_2 ((rd_T54 l3 x17_2).f2).length c116_2) ∧ w45.cell? (ad116.add ((x17_2).toNat * 3)) = some (.bool ((rd_T54 l3 x17_2).f0)) ∧ w45.cell? ⟨(ad116.add ((x17_2).toNat * 3)).block, (ad116.add ((x17_2).toNat * 3)).off + 1, none⟩ = some (.int .i64 ((rd_T54 l3 x17_2).f1)) ∧ w45.cell? ⟨(ad116.add ((x17_2).toNat * 3)).block, (ad116.add ((x17_2).toNat * 3)).off + 2, none⟩ = some (.slice A116_2 ((rd_T54 l3 x17_2).f2).length c116_2) := hS_
        refine norm_ (a' := ?_) ?_ ?_
        rotate_left
        ·simp only [putAll, Act.put, List.setIfInBounds_toArray, List.set_cons_zero, List.set_cons_succ]
         rfl
        refine two_ (i := 25) (j := 33) (Ni := some 87) (Nj := some 20) #[true, true, true, true, true, true, true, true, true, true, true, true, true, true, true, true, true, true, true, true, true, true, true, true, true, true, true, true, true, true, true, false, false, false, false] #[true, true, true, true, true, true, true, true, true, true, true, true, true, true, true, true, true, true, true, true, true, true, true, true, true, false, true, true, true, true, true, false, false, true, false] rfl rfl rfl rfl (two_of HT_.out (by kernel_rfl)) (by decide) (by decide) (fun K hK => ?_) (fun K hK => ?_)
        ·skip
         refine Kd.R_lit_step (Kd.int .i64) _ 3 ?hg (N := 87) ?hd (xs := ([] : List Int)) (inner := []) (ok := fun _ => True) (okp := fun _ => True) ?hr ?hp (fun _ hk => hk) trivial (Below.refl _ _) (Nat.le_refl _) (by simp) ?_; (case hd => rfl); (case hg => rfl); (case hr => first | (go_simp; done) | (go_simp; rfl)); (case hp => exact (Reps.none _ _))
         intro v120 w46 ho47 hb hg_ hnew_
         clear hg_ hnew_
         (first | rw [← Ny119.out] at ho47 | (simp only [Int.reduceToNat] at ho47; rw [← Ny119.out] at ho47))
         have n0_ := Aside0.mk (Kd.S_elder' (by (with_reducible repeat (first | apply Kd.S_alloc | apply Kd.S_drewN | apply Kd.S_drew)); first | exact HO_15.out | (subst_vars; exact HO_15.out)) (Kd.R_base ho47) hb)
         have n1_ := Aside0.mk (Kd.R_lower ho47 (below_size (by repeat (first | (with_reducible first | exact HB.out | apply zBa | apply zBn | apply zBd) | exact HB.out))))
         have n2_ := Aside0.mk (below_step (by repeat (first | (with_reducible first | exact HB.out | apply zBa | apply zBn | apply zBd) | exact HB.out)) hb)
         clear HO_15
         clear HB
         have HO_15 := n0_
         have HO121 := n1_
         have HB := n2_
         clear n0_ n1_ n2_
         clear hb ho47
         refine hK.out _ _ ⟨((HB.out.cell (zW w _ hw116_0)).trans hw116_0), ((HB.out.cell (zW w _ hw116_1)).trans hw116_1), ((HB.out.cell (zW w _ hw116_2)).trans hw116_2), ((HB.out.cell (zW w _ hw122_0)).trans hw122_0), ((HB.out.cell (zW w _ hw122_1)).trans hw122_1), ((HB.out.cell (zW w _ hw122_2)).trans hw122_2)⟩ (fun hHeld => ?_)
         clear hK K
         refine norm_ (a' := ?_) ?_ ?_
         rotate_left
         ·show Act.put _ (some 87) _ = _
          simp only [Act.put, List.setIfInBounds_toArray, List.set_cons_zero, List.set_cons_succ, i64_w, i32_w]
          rfl
         exact norm_ (by first | (simp only [putAll, Act.put, List.setIfInBounds_toArray, List.set_cons_zero, List.set_cons_succ]; done) | (simp only [putAll, Act.put, List.setIfInBounds_toArray, List.set_cons_zero, List.set_cons_succ]; rfl)) (hJ9_19_25 (v120) _ ⟨hHeld, (by (with_reducible repeat (first | apply zRa | apply zRn | apply zRd)); first | exact HO121.out | (subst_vars; exact HO121.out)), (by (with_reducible repeat (first | apply Kd.S_alloc | apply Kd.S_drewN | apply Kd.S_drew)); first | exact Kd.S_mono HO_15.out (fun _ hk => hk.2) | (subst_vars; exact Kd.S_mono HO_15.out (fun _ hk => hk.2))), (by repeat (first | (with_reducible first | exact HB.out | apply zBa | apply zBn | apply zBd) | exact HB.out))⟩)
        ·skip
         refine box_step ?hg (N := 20) ?hd (cs := #[.bool false, .int .i64 0, .slice none 0 0]) (t := 54) ?hr ?_; (case hd => rfl); (case hg => rfl); (case hr => first | (go_simp; done) | (go_simp; rfl))
         intro gb126 hg w46 hbox hb
         have n0_ := Aside0.mk (Kd.S_below (Kd.S_elderB (by (with_reducible repeat (first | apply Kd.S_alloc | apply Kd.S_drewN | apply Kd.S_drew)); first | exact HO_15.out | (subst_vars; exact HO_15.out)) gb126 (Nat.le_of_eq hg.symm)) hb)
         have n1_ := Aside0.mk (below_step (by repeat (first | (with_reducible first | exact HB.out | apply zBa | apply zBn | apply zBd) | exact HB.out)) hb)
         have n2_ := Aside0.mk (hbox)
         have n3_ := Aside0.mk ((by rw [hg]; exact (below_size (by repeat (first | (with_reducible first | exact HB.out | apply zBa | apply zBn | apply zBd) | exact HB.out))) : w.heap.size ≤ gb126))
         have n4_ := Aside0.mk ((by rw [hg]; exact (below_size (by repeat (first | (with_reducible first | exact HB.out | apply zBa | apply zBn | apply zBd) | exact HB.out))) : w.heap.size ≤ gb126))
         clear HO_15
         clear HB
         have HO_15 := n0_
         have HB := n1_
         have BK126 := n2_
         have GW126 := n3_
         have GE126 := n4_
         clear n0_ n1_ n2_ n3_ n4_
         clear hb hbox hg
         refine hK.out _ _ ⟨((HB.out.cell (zW w _ hw116_0)).trans hw116_0), ((HB.out.cell (zW w _ hw116_1)).trans hw116_1), ((HB.out.cell (zW w _ hw116_2)).trans hw116_2), ((HB.out.cell (zW w _ hw122_0)).trans hw122_0), ((HB.out.cell (zW w _ hw122_1)).trans hw122_1), ((HB.out.cell (zW w _ hw122_2)).trans hw122_2)⟩ (fun hHeld => ?_)
         clear hK K
         refine norm_ (a' := ?_) ?_ ?_
         rotate_left
         ·show Act.put _ (some 20) _ = _
          simp only [Act.put, List.setIfInBounds_toArray, List.set_cons_zero, List.set_cons_succ, i64_w, i32_w]
          rfl
         exact norm_ (by first | (simp only [putAll, Act.put, List.setIfInBounds_toArray, List.set_cons_zero, List.set_cons_succ]; done) | (simp only [putAll, Act.put, List.setIfInBounds_toArray, List.set_cons_zero, List.set_cons_succ]; rfl)) (hJ9_19_33 (gb126) _ ⟨hHeld, (by (with_reducible repeat (first | apply Kd.S_alloc | apply Kd.S_drewN | apply Kd.S_drew)); first | exact Kd.S_mono HO_15.out (fun _ hk => hk.2) | (subst_vars; exact Kd.S_mono HO_15.out (fun _ hk => hk.2))), (by (with_reducible repeat (first | apply zNn | apply zNd | apply zNa)); exact BK126.out), GW126.out, GE126.out, (by repeat (first | (with_reducible first | exact HB.out | apply zBa | apply zBn | apply zBd | refine zBs ?_ GE126.out) | exact HB.out))⟩)
      ·skip
       rintro ⟨v120, gb126⟩ w48 ⟨hS_, h0_, h1_, h2_, h3_, h4_, h5_⟩
       have n0_ : Aside0 (Kd.R (Kd.int .i64) 3 w48 w.heap.size (fun _ => True) v120 y119) := ⟨h0_⟩
       have n1_ : Aside0 (Kd.S k54 54 w48 w.heap.size (fun k_ => some k_ ≠ (v120 : Value).ownBlock ∧ k_ ≠ gb126) (.slice Ao18 x15_3.length co18) x15_3) := ⟨h1_⟩
       have n2_ : Aside0 (w48.heap[gb126]? = some (.cells #[.bool false, .int .i64 0, .slice none 0 0] 54 (0, 0))) := ⟨h2_⟩
       have n3_ : Aside0 (w.heap.size ≤ gb126) := ⟨h3_⟩
       have n4_ : Aside0 (w.heap.size ≤ gb126) := ⟨h4_⟩
       have n5_ : Aside0 (Below w.heap.size w w48) := ⟨h5_⟩
       clear HO_15
       clear HB
       clear h0_ h1_ h2_ h3_ h4_ h5_
       have HO121 := n0_
       have HO_15 := n1_
       have BK126 := n2_
       have GW126 := n3_
       have GE126 := n4_
       have HB := n5_
       clear n0_ n1_ n2_ n3_ n4_ n5_
       have hHeld : w48.cell? (ad116.add ((x17_2).toNat * 3)) = some (.bool ((rd_T54 l3 x17_2).f0)) ∧ w48.cell? ⟨(ad116.add ((x17_2).toNat * 3)).block, (ad116.add ((x17_2).toNat * 3)).off + 1, none⟩ = some (.int .i64 ((rd_T54 l3 x17_2).f1)) ∧ w48.cell? ⟨(ad116.add ((x17_2).toNat * 3)).block, (ad116.add ((x17_2).toNat * 3)).off + 2, none⟩ = some (.slice A116_2 ((rd_T54 l3 x17_2).f2).length c116_2) ∧ w48.cell? (ad116.add ((x17_2).toNat * 3)) = some (.bool ((rd_T54 l3 x17_2).f0)) ∧ w48.cell? ⟨(ad116.add ((x17_2).toNat * 3)).block, (ad116.add ((x17_2).toNat * 3)).off + 1, none⟩ = some (.int .i64 ((rd_T54 l3 x17_2).f1)) ∧ w48.cell? ⟨(ad116.add ((x17_2).toNat * 3)).block, (ad116.add ((x17_2).toNat * 3)).off + 2, none⟩ = some (.slice A116_2 ((rd_T54 l3 x17_2).f2).length c116_2) := hS_
       refine norm_ (a' := ?_) ?_ ?_
       rotate_left
       ·simp only [putAll, Act.put, List.setIfInBounds_toArray, List.set_cons_zero, List.set_cons_succ]
        rfl
       refine one_ (i := 19) (N := some 81) #[true, true, true, true, true, true, true, true, true, true, true, true, true, true, true, true, true, true, true, true, false, false, false, false, false, true, true, true, true, true, true, false, false, true, false] rfl rfl (one_of HT_.out (by kernel_rfl)) (by decide) (fun K hK => ?_)
       refine goes_ Try.func41 (by kernel_rfl) rfl #[.int .i64 (Go.bits .and .i64 (wrap64 ((wrap64 (2 * x17_2)) + x18_3)) a2)] (by rfl) rfl rfl (by (try simp only [List.map_toArray, List.map_cons, List.map_nil]); first | done | rfl | (simp only [List.length_drop, List.length_take]; rfl)) ?_
       with_reducible refine (spec_l14Ones.calls kj24 (Go.bits .and .i64 (wrap64 ((wrap64 (2 * x17_2)) + x18_3)) a2) t118 _ A31.out).mono ?_
       rintro e w' ⟨rfl, ⟨nd, rfl⟩⟩
       refine ⟨_, rfl, ?_⟩
       refine hK.out _ _ ⟨((HB.out.cell (zW w _ hw116_0)).trans hw116_0), ((HB.out.cell (zW w _ hw116_1)).trans hw116_1), ((HB.out.cell (zW w _ hw116_2)).trans hw116_2), ((HB.out.cell (zW w _ hw122_0)).trans hw122_0), ((HB.out.cell (zW w _ hw122_1)).trans hw122_1), ((HB.out.cell (zW w _ hw122_2)).trans hw122_2)⟩ (fun hHeld => ?_)
       clear hK K
       refine norm_ (a' := ?_) ?_ ?_
       rotate_left
       ·show Act.put _ (some 81) _ = _
        simp only [Act.put, List.setIfInBounds_toArray, List.set_cons_zero, List.set_cons_succ, i64_w, i32_w]
        rfl
       refine pure_ (i := 20) (N := some 82) (v := ?_) (a' := ?_) #[true, true, true, true, true, true, true, true, true, true, true, true, true, true, true, true, true, true, true, true, true, false, false, false, false, true, true, true, true, true, true, false, false, true, false] rfl rfl (any_of HT_.out (by kernel_rfl)) (fun _ _ _ h => hQp _ _ _ _ (by rfl) h) (Or.inl ⟨by rfl, ?_⟩) ?_ ?_
       rotate_left
       ·intro w'
        go_simp
        with_reducible rfl
       rotate_left
       ·simp only [Act.put, List.setIfInBounds_toArray, List.set_cons_zero, List.set_cons_succ, i64_w, i32_w]
        rfl
       refine pure_ (i := 21) (N := some 83) (v := ?_) (a' := ?_) #[true, true, true, true, true, true, true, true, true, true, true, true, true, true, true, true, true, true, true, true, true, true, false, false, false, true, true, true, true, true, true, false, false, true, false] rfl rfl (any_of HT_.out (by kernel_rfl)) (fun _ _ _ h => hQp _ _ _ _ (by rfl) h) (Or.inl ⟨by rfl, ?_⟩) ?_ ?_
       rotate_left
       ·intro w'
        go_simp
        with_reducible rfl
       rotate_left
       ·simp only [Act.put, List.setIfInBounds_toArray, List.set_cons_zero, List.set_cons_succ, i64_w, i32_w]
        rfl
       refine pure_ (i := 22) (N := some 84) (v := ?_) (a' := ?_) #[true, true, true, true, true, true, true, true, true, true, true, true, true, true, true, true, true, true, true, true, true, true, true, false, false, true, true, true, true, true, true, false, false, true, false] rfl rfl (any_of HT_.out (by kernel_rfl)) (fun _ _ _ h => hQp _ _ _ _ (by rfl) h) (Or.inl ⟨by rfl, ?_⟩) ?_ ?_
       rotate_left
       ·intro w'
        go_simp
        with_reducible rfl
       rotate_left
       ·simp only [Act.put, List.setIfInBounds_toArray, List.set_cons_zero, List.set_cons_succ, i64_w, i32_w]
        rfl
       refine pure_ (i := 23) (N := some 85) (v := ?_) (a' := ?_) #[true, true, true, true, true, true, true, true, true, true, true, true, true, true, true, true, true, true, true, true, true, true, true, true, false, true, true, true, true, true, true, false, false, true, false] rfl rfl (any_of HT_.out (by kernel_rfl)) (fun _ _ _ h => hQp _ _ _ _ (by rfl) h) (Or.inl ⟨by rfl, ?_⟩) ?_ ?_
       rotate_left
       ·intro w'
        go_simp
        with_reducible rfl
       rotate_left
       ·simp only [Act.put, List.setIfInBounds_toArray, List.set_cons_zero, List.set_cons_succ, i64_w, i32_w]
        rfl
       refine pure_ (i := 24) (N := some 86) (v := ?_) (a' := ?_) #[true, true, true, true, true, true, true, true, true, true, true, true, true, true, true, true, true, true, true, true, true, true, true, true, true, true, true, true, true, true, true, false, false, true, false] rfl rfl (any_of HT_.out (by kernel_rfl)) (fun _ _ _ h => hQp _ _ _ _ (by rfl) h) (Or.inl ⟨by rfl, ?_⟩) ?_ ?_
       rotate_left
       ·intro w'
        go_simp
        with_reducible rfl
       rotate_left
       ·simp only [Act.put, List.setIfInBounds_toArray, List.set_cons_zero, List.set_cons_succ, i64_w, i32_w]
        rfl
       exact norm_ (by first | (simp only [putAll, Act.put, List.setIfInBounds_toArray, List.set_cons_zero, List.set_cons_succ]; done) | (simp only [putAll, Act.put, List.setIfInBounds_toArray, List.set_cons_zero, List.set_cons_succ]; rfl)) (hJ9_19_25_33 (v120, gb126) _ ⟨hHeld, (by (with_reducible repeat (first | apply zRa | apply zRn | apply zRd)); first | exact HO121.out | (subst_vars; exact HO121.out)), (by (with_reducible repeat (first | apply Kd.S_alloc | apply Kd.S_drewN | apply Kd.S_drew)); first | exact HO_15.out | (subst_vars; exact HO_15.out)), (by (with_reducible repeat (first | apply zNn | apply zNd | apply zNa)); exact BK126.out), GW126.out, GE126.out, (by repeat (first | (with_reducible first | exact HB.out | apply zBa | apply zBn | apply zBd | refine zBs ?_ GE126.out) | exact HB.out))⟩)
     ·skip
      rintro gb126 w46 ⟨hS_, h0_, h1_, h2_, h3_, h4_⟩
      have n0_ : Aside0 (Kd.S k54 54 w46 w.heap.size (fun k_ => k_ ≠ gb126) (.slice Ao18 x15_3.length co18) x15_3) := ⟨h0_⟩
      have n1_ : Aside0 (w46.heap[gb126]? = some (.cells #[.bool false, .int .i64 0, .slice none 0 0] 54 (0, 0))) := ⟨h1_⟩
      have n2_ : Aside0 (w.heap.size ≤ gb126) := ⟨h2_⟩
      have n3_ : Aside0 (w.heap.size ≤ gb126) := ⟨h3_⟩
      have n4_ : Aside0 (Below w.heap.size w w46) := ⟨h4_⟩
      clear HO_15
      clear HB
      clear h0_ h1_ h2_ h3_ h4_
      have HO_15 := n0_
      have BK126 := n1_
      have GW126 := n2_
      have GE126 := n3_
      have HB := n4_
      clear n0_ n1_ n2_ n3_ n4_
      have hHeld : w46.cell? (ad116.add ((x17_2).toNat * 3)) = some (.bool ((rd_T54 l3 x17_2).f0)) ∧ w46.cell? ⟨(ad116.add ((x17_2).toNat * 3)).block, (ad116.add ((x17_2).toNat * 3)).off + 1, none⟩ = some (.int .i64 ((rd_T54 l3 x17_2).f1)) ∧ w46.cell? ⟨(ad116.add ((x17_2).toNat * 3)).block, (ad116.add ((x17_2).toNat * 3)).off + 2, none⟩ = some (.slice A116_2 ((rd_T54 l3 x17_2).f2).length c116_2) ∧ w46.cell? (ad116.add ((x17_2).toNat * 3)) = some (.bool ((rd_T54 l3 x17_2).f0)) ∧ w46.cell? ⟨(ad116.add ((x17_2).toNat * 3)).block, (ad116.add ((x17_2).toNat * 3)).off + 1, none⟩ = some (.int .i64 ((rd_T54 l3 x17_2).f1)) ∧ w46.cell? ⟨(ad116.add ((x17_2).toNat * 3)).block, (ad116.add ((x17_2).toNat * 3)).off + 2, none⟩ = some (.slice A116_2 ((rd_T54 l3 x17_2).f2).length c116_2) := hS_
      refine norm_ (a' := ?_) ?_ ?_
      rotate_left
      ·simp only [putAll, Act.put, List.setIfInBounds_toArray, List.set_cons_zero, List.set_cons_succ]
       rfl
      refine one_ (i := 25) (N := some 87) #[true, true, true, true, true, true, true, true, true, true, true, true, true, true, true, true, true, true, true, true, true, true, true, true, true, true, true, true, true, true, true, false, false, true, false] rfl rfl (one_of HT_.out (by kernel_rfl)) (by decide) (fun K hK => ?_)
      refine Kd.R_lit_step (Kd.int .i64) _ 3 ?hg (N := 87) ?hd (xs := ([] : List Int)) (inner := []) (ok := fun _ => True) (okp := fun _ => True) ?hr ?hp (fun _ hk => hk) trivial (Below.refl _ _) (Nat.le_refl _) (by simp) ?_; (case hd => rfl); (case hg => rfl); (case hr => first | (go_simp; done) | (go_simp; rfl)); (case hp => exact (Reps.none _ _))
      intro v120 w47 ho48 hb hg_ hnew_
      clear hg_ hnew_
      (first | rw [← Ny119.out] at ho48 | (simp only [Int.reduceToNat] at ho48; rw [← Ny119.out] at ho48))
      have n0_ := Aside0.mk (Kd.S_elder' (by (with_reducible repeat (first | apply Kd.S_alloc | apply Kd.S_drewN | apply Kd.S_drew)); first | exact HO_15.out | (subst_vars; exact HO_15.out)) (Kd.R_base ho48) hb)
      have n1_ := Aside0.mk (Kd.R_lower ho48 (below_size (by repeat (first | (with_reducible first | exact HB.out | apply zBa | apply zBn | apply zBd | refine zBs ?_ GE126.out) | exact HB.out))))
      have n2_ := Aside0.mk (zNb (g := gb126) (o := .cells #[.bool false, .int .i64 0, .slice none 0 0] 54 (0, 0)) (by (with_reducible repeat (first | apply zNn | apply zNd | apply zNa)); exact BK126.out) hb)
      have n3_ := Aside0.mk (below_step (by repeat (first | (with_reducible first | exact HB.out | apply zBa | apply zBn | apply zBd | refine zBs ?_ GE126.out) | exact HB.out)) hb)
      clear HO_15
      clear BK126
      clear HB
      have HO_15 := n0_
      have HO121 := n1_
      have BK126 := n2_
      have HB := n3_
      clear n0_ n1_ n2_ n3_
      clear hb ho48
      refine hK.out _ _ ⟨((HB.out.cell (zW w _ hw116_0)).trans hw116_0), ((HB.out.cell (zW w _ hw116_1)).trans hw116_1), ((HB.out.cell (zW w _ hw116_2)).trans hw116_2), ((HB.out.cell (zW w _ hw122_0)).trans hw122_0), ((HB.out.cell (zW w _ hw122_1)).trans hw122_1), ((HB.out.cell (zW w _ hw122_2)).trans hw122_2)⟩ (fun hHeld => ?_)
      clear hK K
      refine norm_ (a' := ?_) ?_ ?_
      rotate_left
      ·show Act.put _ (some 87) _ = _
       simp only [Act.put, List.setIfInBounds_toArray, List.set_cons_zero, List.set_cons_succ, i64_w, i32_w]
       rfl
      exact norm_ (by first | (simp only [putAll, Act.put, List.setIfInBounds_toArray, List.set_cons_zero, List.set_cons_succ]; done) | (simp only [putAll, Act.put, List.setIfInBounds_toArray, List.set_cons_zero, List.set_cons_succ]; rfl)) (hJ9_19_25_33 (v120, gb126) _ ⟨hHeld, (by (with_reducible repeat (first | apply zRa | apply zRn | apply zRd)); first | exact HO121.out | (subst_vars; exact HO121.out)), (by (with_reducible repeat (first | apply Kd.S_alloc | apply Kd.S_drewN | apply Kd.S_drew)); first | exact Kd.S_mono HO_15.out (fun _ hk => ⟨hk.2, hk.1⟩) | (subst_vars; exact Kd.S_mono HO_15.out (fun _ hk => ⟨hk.2, hk.1⟩))), (by (with_reducible repeat (first | apply zNn | apply zNd | apply zNa)); exact BK126.out), GW126.out, GE126.out, (by repeat (first | (with_reducible first | exact HB.out | apply zBa | apply zBn | apply zBd | refine zBs ?_ GE126.out) | exact HB.out))⟩)
    ·skip
     rintro v120 w47 ⟨hS_, h0_, h1_, h2_⟩
     have n0_ : Aside0 (Kd.R (Kd.int .i64) 3 w47 w.heap.size (fun _ => True) v120 y119) := ⟨h0_⟩
     have n1_ : Aside0 (Kd.S k54 54 w47 w.heap.size (fun k_ => some k_ ≠ (v120 : Value).ownBlock) (.slice Ao18 x15_3.length co18) x15_3) := ⟨h1_⟩
     have n2_ : Aside0 (Below w.heap.size w w47) := ⟨h2_⟩
     clear HO_15
     clear HB
     clear h0_ h1_ h2_
     have HO121 := n0_
     have HO_15 := n1_
     have HB := n2_
     clear n0_ n1_ n2_
     have hHeld : w47.cell? (ad116.add ((x17_2).toNat * 3)) = some (.bool ((rd_T54 l3 x17_2).f0)) ∧ w47.cell? ⟨(ad116.add ((x17_2).toNat * 3)).block, (ad116.add ((x17_2).toNat * 3)).off + 1, none⟩ = some (.int .i64 ((rd_T54 l3 x17_2).f1)) ∧ w47.cell? ⟨(ad116.add ((x17_2).toNat * 3)).block, (ad116.add ((x17_2).toNat * 3)).off + 2, none⟩ = some (.slice A116_2 ((rd_T54 l3 x17_2).f2).length c116_2) ∧ w47.cell? (ad116.add ((x17_2).toNat * 3)) = some (.bool ((rd_T54 l3 x17_2).f0)) ∧ w47.cell? ⟨(ad116.add ((x17_2).toNat * 3)).block, (ad116.add ((x17_2).toNat * 3)).off + 1, none⟩ = some (.int .i64 ((rd_T54 l3 x17_2).f1)) ∧ w47.cell? ⟨(ad116.add ((x17_2).toNat * 3)).block, (ad116.add ((x17_2).toNat * 3)).off + 2, none⟩ = some (.slice A116_2 ((rd_T54 l3 x17_2).f2).length c116_2) := hS_
     refine norm_ (a' := ?_) ?_ ?_
     rotate_left
     ·simp only [putAll, Act.put, List.setIfInBounds_toArray, List.set_cons_zero, List.set_cons_succ]
      rfl
     refine two_ (i := 31) (j := 33) (Ni := some 93) (Nj := some 20) #[true, true, true, true, true, true, true, true, true, true, true, true, true, true, true, true, true, true, true, true, true, true, true, true, true, true, true, true, true, true, true, true, false, false, false] #[true, true, true, true, true, true, true, true, true, true, true, true, true, true, true, true, true, true, true, true, true, true, true, true, true, true, true, true, true, true, true, false, false, true, false] rfl rfl rfl rfl (two_of HT_.out (by kernel_rfl)) (by decide) (by decide) (fun K hK => ?_) (fun K hK => ?_)
     ·skip
      refine Kd.R_append_rows_step (Kd.int .i64) (w0 := w) w.heap.size (by rfl) (.tmp 87) (.tmp 92) 24 3 (.int .i64 0) 8 rfl Try.underlying24 info3 rfl (by decide) (by omega) v120 y119 ((rd_T54 l3 x17_2).f2) _ _ _ (fun _ => True) (fun _ => False) rfl rfl ?aO ?aR (fun _ _ h => h) (fun _ h => h.elim) ?aF ?aB ?aS ?aL ?_
      (case aR => repeat (first | exact (Kd.C_below HR122_2.out HB.out) | (with_reducible first | refine zCa ?_ _ | refine zCn ?_ _ | refine zCd ?_)))
      (case aB => exact (by repeat (first | (with_reducible first | exact HB.out | apply zBa | apply zBn | apply zBd) | exact HB.out)))
      (case aF => exact (fun _ _ => trivial))
      (case aO => exact (by (with_reducible repeat (first | apply zRa | apply zRn | apply zRd)); first | exact HO121.out | (subst_vars; exact HO121.out)))
      (case aS => exact (below_size (by repeat (first | (with_reducible first | exact HB.out | apply zBa | apply zBn | apply zBd) | exact HB.out))))
      (case aL => have := LMc32.out; omega)
      intro v124 w48 ho hb hg hat
      (first | rw [← Ny123.out] at ho | (simp only [Int.reduceToNat] at ho; rw [← Ny123.out] at ho))
      have n0_ := Aside0.mk (Kd.S_after (ok := (fun _ => True)) (by (with_reducible repeat (first | apply Kd.S_alloc | apply Kd.S_drewN | apply Kd.S_drew)); first | exact Kd.S_mono HO_15.out (fun _ hk => ⟨trivial, hk⟩) | (subst_vars; exact Kd.S_mono HO_15.out (fun _ hk => ⟨trivial, hk⟩))) hg hat)
      have n1_ := Aside0.mk (hb)
      have n2_ := Aside0.mk (ho)
      clear HO_15
      clear HB
      clear HO121
      have HO_15 := n0_
      have HB := n1_
      have HO125 := n2_
      clear n0_ n1_ n2_
      clear ho hb hg hat
      obtain ⟨Ao49, co49, eo49⟩ := Kd.R_slice HO125.out
      (first | subst eo49 | (injection eo49 with f1_ f2_ f3_; have f4_ := f1_.symm; have f5_ := f3_.symm; clear f1_ f2_ f3_; subst f4_; subst f5_))
      refine hK.out _ _ ⟨((HB.out.cell (zW w _ hw116_0)).trans hw116_0), ((HB.out.cell (zW w _ hw116_1)).trans hw116_1), ((HB.out.cell (zW w _ hw116_2)).trans hw116_2), ((HB.out.cell (zW w _ hw122_0)).trans hw122_0), ((HB.out.cell (zW w _ hw122_1)).trans hw122_1), ((HB.out.cell (zW w _ hw122_2)).trans hw122_2)⟩ (fun hHeld => ?_)
      clear hK K
      refine norm_ (a' := ?_) ?_ ?_
      rotate_left
      ·show Act.put _ (some 93) _ = _
       simp only [Act.put, List.setIfInBounds_toArray, List.set_cons_zero, List.set_cons_succ, i64_w, i32_w]
       rfl
      refine pure_ (i := 32) (N := some 94) (v := ?_) (a' := ?_) #[true, true, true, true, true, true, true, true, true, true, true, true, true, true, true, true, true, true, true, true, true, true, true, true, true, true, true, true, true, true, true, true, true, false, false] rfl rfl (any_of HT_.out (by kernel_rfl)) (fun _ _ _ h => hQp _ _ _ _ (by rfl) h) (Or.inl ⟨by rfl, ?_⟩) ?_ ?_
      rotate_left
      ·intro w'
       go_simp
       with_reducible rfl
      rotate_left
      ·simp only [Act.put, List.setIfInBounds_toArray, List.set_cons_zero, List.set_cons_succ, i64_w, i32_w]
       rfl
      exact norm_ (by first | (simp only [putAll, Act.put, List.setIfInBounds_toArray, List.set_cons_zero, List.set_cons_succ]; done) | (simp only [putAll, Act.put, List.setIfInBounds_toArray, List.set_cons_zero, List.set_cons_succ]; rfl)) (hJ9_19_25_31 (v120, .slice Ao49 y123.length co49) _ ⟨hHeld, (by (with_reducible repeat (first | apply zRa | apply zRn | apply zRd)); first | exact HO125.out | (subst_vars; exact HO125.out)), (by (with_reducible repeat (first | apply Kd.S_alloc | apply Kd.S_drewN | apply Kd.S_drew)); first | exact Kd.S_mono HO_15.out (fun _ hk => hk.2) | (subst_vars; exact Kd.S_mono HO_15.out (fun _ hk => hk.2))), (by repeat (first | (with_reducible first | exact HB.out | apply zBa | apply zBn | apply zBd) | exact HB.out))⟩)
     ·skip
      refine box_step ?hg (N := 20) ?hd (cs := #[.bool false, .int .i64 0, .slice none 0 0]) (t := 54) ?hr ?_; (case hd => rfl); (case hg => rfl); (case hr => first | (go_simp; done) | (go_simp; rfl))
      intro gb126 hg w48 hbox hb
      have n0_ := Aside0.mk (Kd.S_below (Kd.S_elderB (by (with_reducible repeat (first | apply Kd.S_alloc | apply Kd.S_drewN | apply Kd.S_drew)); first | exact HO_15.out | (subst_vars; exact HO_15.out)) gb126 (Nat.le_of_eq hg.symm)) hb)
      have n1_ := Aside0.mk (Kd.R_below (by (with_reducible repeat (first | apply zRa | apply zRn | apply zRd)); first | exact HO121.out | (subst_vars; exact HO121.out)) hb)
      have n2_ := Aside0.mk (below_step (by repeat (first | (with_reducible first | exact HB.out | apply zBa | apply zBn | apply zBd) | exact HB.out)) hb)
      have n3_ := Aside0.mk (hbox)
      have n4_ := Aside0.mk ((by rw [hg]; exact (below_size (by repeat (first | (with_reducible first | exact HB.out | apply zBa | apply zBn | apply zBd) | exact HB.out))) : w.heap.size ≤ gb126))
      have n5_ := Aside0.mk ((by rw [hg]; exact (below_size (by repeat (first | (with_reducible first | exact HB.out | apply zBa | apply zBn | apply zBd) | exact HB.out))) : w.heap.size ≤ gb126))
      clear HO_15
      clear HO121
      clear HB
      have HO_15 := n0_
      have HO121 := n1_
      have HB := n2_
      have BK126 := n3_
      have GW126 := n4_
      have GE126 := n5_
      clear n0_ n1_ n2_ n3_ n4_ n5_
      clear hb hbox hg
      refine hK.out _ _ ⟨((HB.out.cell (zW w _ hw116_0)).trans hw116_0), ((HB.out.cell (zW w _ hw116_1)).trans hw116_1), ((HB.out.cell (zW w _ hw116_2)).trans hw116_2), ((HB.out.cell (zW w _ hw122_0)).trans hw122_0), ((HB.out.cell (zW w _ hw122_1)).trans hw122_1), ((HB.out.cell (zW w _ hw122_2)).trans hw122_2)⟩ (fun hHeld => ?_)
      clear hK K
      refine norm_ (a' := ?_) ?_ ?_
      rotate_left
      ·show Act.put _ (some 20) _ = _
       simp only [Act.put, List.setIfInBounds_toArray, List.set_cons_zero, List.set_cons_succ, i64_w, i32_w]
       rfl
      exact norm_ (by first | (simp only [putAll, Act.put, List.setIfInBounds_toArray, List.set_cons_zero, List.set_cons_succ]; done) | (simp only [putAll, Act.put, List.setIfInBounds_toArray, List.set_cons_zero, List.set_cons_succ]; rfl)) (hJ9_19_25_33 (v120, gb126) _ ⟨hHeld, (by (with_reducible repeat (first | apply zRa | apply zRn | apply zRd)); first | exact HO121.out | (subst_vars; exact HO121.out)), (by (with_reducible repeat (first | apply Kd.S_alloc | apply Kd.S_drewN | apply Kd.S_drew)); first | exact HO_15.out | (subst_vars; exact HO_15.out)), (by (with_reducible repeat (first | apply zNn | apply zNd | apply zNa)); exact BK126.out), GW126.out, GE126.out, (by repeat (first | (with_reducible first | exact HB.out | apply zBa | apply zBn | apply zBd | refine zBs ?_ GE126.out) | exact HB.out))⟩)
   ·skip
    rintro ⟨v120, gb126⟩ w48 ⟨hS_, h0_, h1_, h2_, h3_, h4_, h5_⟩
    have n0_ : Aside0 (Kd.R (Kd.int .i64) 3 w48 w.heap.size (fun _ => True) v120 y119) := ⟨h0_⟩
    have n1_ : Aside0 (Kd.S k54 54 w48 w.heap.size (fun k_ => some k_ ≠ (v120 : Value).ownBlock ∧ k_ ≠ gb126) (.slice Ao18 x15_3.length co18) x15_3) := ⟨h1_⟩
    have n2_ : Aside0 (w48.heap[gb126]? = some (.cells #[.bool false, .int .i64 0, .slice none 0 0] 54 (0, 0))) := ⟨h2_⟩
    have n3_ : Aside0 (w.heap.size ≤ gb126) := ⟨h3_⟩
    have n4_ : Aside0 (w.heap.size ≤ gb126) := ⟨h4_⟩
    have n5_ : Aside0 (Below w.heap.size w w48) := ⟨h5_⟩
    clear HO_15
    clear HB
    clear h0_ h1_ h2_ h3_ h4_ h5_
    have HO121 := n0_
    have HO_15 := n1_
    have BK126 := n2_
    have GW126 := n3_
    have GE126 := n4_
    have HB := n5_
    clear n0_ n1_ n2_ n3_ n4_ n5_
    have hHeld : w48.cell? (ad116.add ((x17_2).toNat * 3)) = some (.bool ((rd_T54 l3 x17_2).f0)) ∧ w48.cell? ⟨(ad116.add ((x17_2).toNat * 3)).block, (ad116.add ((x17_2).toNat * 3)).off + 1, none⟩ = some (.int .i64 ((rd_T54 l3 x17_2).f1)) ∧ w48.cell? ⟨(ad116.add ((x17_2).toNat * 3)).block, (ad116.add ((x17_2).toNat * 3)).off + 2, none⟩ = some (.slice A116_2 ((rd_T54 l3 x17_2).f2).length c116_2) ∧ w48.cell? (ad116.add ((x17_2).toNat * 3)) = some (.bool ((rd_T54 l3 x17_2).f0)) ∧ w48.cell? ⟨(ad116.add ((x17_2).toNat * 3)).block, (ad116.add ((x17_2).toNat * 3)).off + 1, none⟩ = some (.int .i64 ((rd_T54 l3 x17_2).f1)) ∧ w48.cell? ⟨(ad116.add ((x17_2).toNat * 3)).block, (ad116.add ((x17_2).toNat * 3)).off + 2, none⟩ = some (.slice A116_2 ((rd_T54 l3 x17_2).f2).length c116_2) := hS_
    refine norm_ (a' := ?_) ?_ ?_
    rotate_left
    ·simp only [putAll, Act.put, List.setIfInBounds_toArray, List.set_cons_zero, List.set_cons_succ]
     rfl
    refine one_ (i := 31) (N := some 93) #[true, true, true, true, true, true, true, true, true, true, true, true, true, true, true, true, true, true, true, true, true, true, true, true, true, true, true, true, true, true, true, true, false, true, false] rfl rfl (one_of HT_.out (by kernel_rfl)) (by decide) (fun K hK => ?_)
    refine Kd.R_append_rows_step (Kd.int .i64) (w0 := w) w.heap.size (by rfl) (.tmp 87) (.tmp 92) 24 3 (.int .i64 0) 8 rfl Try.underlying24 info3 rfl (by decide) (by omega) v120 y119 ((rd_T54 l3 x17_2).f2) _ _ _ (fun _ => True) (fun _ => False) rfl rfl ?aO ?aR (fun _ _ h => h) (fun _ h => h.elim) ?aF ?aB ?aS ?aL ?_
    (case aR => repeat (first | exact (Kd.C_below HR122_2.out HB.out) | (with_reducible first | refine zCa ?_ _ | refine zCn ?_ _ | refine zCd ?_)))
    (case aB => exact (by repeat (first | (with_reducible first | exact HB.out | apply zBa | apply zBn | apply zBd | refine zBs ?_ GE126.out) | exact HB.out)))
    (case aF => exact (fun _ _ => trivial))
    (case aO => exact (by (with_reducible repeat (first | apply zRa | apply zRn | apply zRd)); first | exact HO121.out | (subst_vars; exact HO121.out)))
    (case aS => exact (below_size (by repeat (first | (with_reducible first | exact HB.out | apply zBa | apply zBn | apply zBd | refine zBs ?_ GE126.out) | exact HB.out))))
    (case aL => have := LMc32.out; omega)
    intro v124 w49 ho hb hg hat
    (first | rw [← Ny123.out] at ho | (simp only [Int.reduceToNat] at ho; rw [← Ny123.out] at ho))
    have n0_ := Aside0.mk (Kd.S_after (ok := (fun k_ => k_ ≠ gb126)) (by (with_reducible repeat (first | apply Kd.S_alloc | apply Kd.S_drewN | apply Kd.S_drew)); first | exact Kd.S_mono HO_15.out (fun _ hk => ⟨hk.2, hk.1⟩) | (subst_vars; exact Kd.S_mono HO_15.out (fun _ hk => ⟨hk.2, hk.1⟩))) hg hat)
    have n1_ := Aside0.mk (blk_grown (g := gb126) (o := .cells #[.bool false, .int .i64 0, .slice none 0 0] 54 (0, 0)) (by (with_reducible repeat (first | apply zNn | apply zNd | apply zNa)); exact BK126.out) hg (Kd.R_ne HO121.out BK126.out (by decide)))
    have n2_ := Aside0.mk (hb)
    have n3_ := Aside0.mk (ho)
    clear HO_15
    clear BK126
    clear HB
    clear HO121
    have HO_15 := n0_
    have BK126 := n1_
    have HB := n2_
    have HO125 := n3_
    clear n0_ n1_ n2_ n3_
    clear ho hb hg hat
    obtain ⟨Ao50, co50, eo50⟩ := Kd.R_slice HO125.out
    (first | subst eo50 | (injection eo50 with f1_ f2_ f3_; have f4_ := f1_.symm; have f5_ := f3_.symm; clear f1_ f2_ f3_; subst f4_; subst f5_))
    refine hK.out _ _ ⟨((HB.out.cell (zW w _ hw116_0)).trans hw116_0), ((HB.out.cell (zW w _ hw116_1)).trans hw116_1), ((HB.out.cell (zW w _ hw116_2)).trans hw116_2), ((HB.out.cell (zW w _ hw122_0)).trans hw122_0), ((HB.out.cell (zW w _ hw122_1)).trans hw122_1), ((HB.out.cell (zW w _ hw122_2)).trans hw122_2)⟩ (fun hHeld => ?_)
    clear hK K
    refine norm_ (a' := ?_) ?_ ?_
    rotate_left
    ·show Act.put _ (some 93) _ = _
     simp only [Act.put, List.setIfInBounds_toArray, List.set_cons_zero, List.set_cons_succ, i64_w, i32_w]
     rfl
    refine pure_ (i := 32) (N := some 94) (v := ?_) (a' := ?_) #[true, true, true, true, true, true, true, true, true, true, true, true, true, true, true, true, true, true, true, true, true, true, true, true, true, true, true, true, true, true, true, true, true, true, false] rfl rfl (any_of HT_.out (by kernel_rfl)) (fun _ _ _ h => hQp _ _ _ _ (by rfl) h) (Or.inl ⟨by rfl, ?_⟩) ?_ ?_
    rotate_left
    ·intro w'
     go_simp
     with_reducible rfl
    rotate_left
    ·simp only [Act.put, List.setIfInBounds_toArray, List.set_cons_zero, List.set_cons_succ, i64_w, i32_w]
     rfl
    exact norm_ (by first | (simp only [putAll, Act.put, List.setIfInBounds_toArray, List.set_cons_zero, List.set_cons_succ]; done) | (simp only [putAll, Act.put, List.setIfInBounds_toArray, List.set_cons_zero, List.set_cons_succ]; rfl)) (hJ9_19_25_31_33 (v120, .slice Ao50 y123.length co50, gb126) _ ⟨hHeld, (by (with_reducible repeat (first | apply zRa | apply zRn | apply zRd)); first | exact HO125.out | (subst_vars; exact HO125.out)), (by (with_reducible repeat (first | apply Kd.S_alloc | apply Kd.S_drewN | apply Kd.S_drew)); first | exact Kd.S_mono HO_15.out (fun _ hk => ⟨hk.2, hk.1⟩) | (subst_vars; exact Kd.S_mono HO_15.out (fun _ hk => ⟨hk.2, hk.1⟩))), (by (with_reducible repeat (first | apply zNn | apply zNd | apply zNa)); exact BK126.out), GW126.out, GE126.out, (by repeat (first | (with_reducible first | exact HB.out | apply zBa | apply zBn | apply zBd | refine zBs ?_ GE126.out) | exact HB.out))⟩)
  ·skip
   rintro ⟨v120, v124⟩ w49 ⟨hS_, h0_, h1_, h2_⟩
   have n0_ : Aside0 (Kd.R (Kd.int .i64) 3 w49 w.heap.size (fun _ => True) v124 y123) := ⟨h0_⟩
   have n1_ : Aside0 (Kd.S k54 54 w49 w.heap.size (fun k_ => some k_ ≠ (v124 : Value).ownBlock) (.slice Ao18 x15_3.length co18) x15_3) := ⟨h1_⟩
   have n2_ : Aside0 (Below w.heap.size w w49) := ⟨h2_⟩
   clear HO_15
   clear HB
   clear h0_ h1_ h2_
   have HO125 := n0_
   have HO_15 := n1_
   have HB := n2_
   clear n0_ n1_ n2_
   have hHeld : w49.cell? (ad116.add ((x17_2).toNat * 3)) = some (.bool ((rd_T54 l3 x17_2).f0)) ∧ w49.cell? ⟨(ad116.add ((x17_2).toNat * 3)).block, (ad116.add ((x17_2).toNat * 3)).off + 1, none⟩ = some (.int .i64 ((rd_T54 l3 x17_2).f1)) ∧ w49.cell? ⟨(ad116.add ((x17_2).toNat * 3)).block, (ad116.add ((x17_2).toNat * 3)).off + 2, none⟩ = some (.slice A116_2 ((rd_T54 l3 x17_2).f2).length c116_2) ∧ w49.cell? (ad116.add ((x17_2).toNat * 3)) = some (.bool ((rd_T54 l3 x17_2).f0)) ∧ w49.cell? ⟨(ad116.add ((x17_2).toNat * 3)).block, (ad116.add ((x17_2).toNat * 3)).off + 1, none⟩ = some (.int .i64 ((rd_T54 l3 x17_2).f1)) ∧ w49.cell? ⟨(ad116.add ((x17_2).toNat * 3)).block, (ad116.add ((x17_2).toNat * 3)).off + 2, none⟩ = some (.slice A116_2 ((rd_T54 l3 x17_2).f2).length c116_2) := hS_
   obtain ⟨Ao50, co50, eo50⟩ := Kd.R_slice HO125.out
   (first | subst eo50 | (injection eo50 with f1_ f2_ f3_; have f4_ := f1_.symm; have f5_ := f3_.symm; clear f1_ f2_ f3_; subst f4_; subst f5_))
   refine norm_ (a' := ?_) ?_ ?_
   rotate_left
   ·simp only [putAll, Act.put, List.setIfInBounds_toArray, List.set_cons_zero, List.set_cons_succ]
    rfl
   refine one_ (i := 33) (N := some 20) #[true, true, true, true, true, true, true, true, true, true, true, true, true, true, true, true, true, true, true, true, true, true, true, true, true, true, true, true, true, true, true, true, true, true, false] rfl rfl (one_of HT_.out (by kernel_rfl)) (by decide) (fun K hK => ?_)
   refine box_step ?hg (N := 20) ?hd (cs := #[.bool false, .int .i64 0, .slice none 0 0]) (t := 54) ?hr ?_; (case hd => rfl); (case hg => rfl); (case hr => first | (go_simp; done) | (go_simp; rfl))
   intro gb126 hg w51 hbox hb
   have n0_ := Aside0.mk (Kd.S_below (Kd.S_elderB (by (with_reducible repeat (first | apply Kd.S_alloc | apply Kd.S_drewN | apply Kd.S_drew)); first | exact HO_15.out | (subst_vars; exact HO_15.out)) gb126 (Nat.le_of_eq hg.symm)) hb)
   have n1_ := Aside0.mk (Kd.R_below (by (with_reducible repeat (first | apply zRa | apply zRn | apply zRd)); first | exact HO125.out | (subst_vars; exact HO125.out)) hb)
   have n2_ := Aside0.mk (below_step (by repeat (first | (with_reducible first | exact HB.out | apply zBa | apply zBn | apply zBd) | exact HB.out)) hb)
   have n3_ := Aside0.mk (hbox)
   have n4_ := Aside0.mk ((by rw [hg]; exact (below_size (by repeat (first | (with_reducible first | exact HB.out | apply zBa | apply zBn | apply zBd) | exact HB.out))) : w.heap.size ≤ gb126))
   have n5_ := Aside0.mk ((by rw [hg]; exact (below_size (by repeat (first | (with_reducible first | exact HB.out | apply zBa | apply zBn | apply zBd) | exact HB.out))) : w.heap.size ≤ gb126))
   clear HO_15
   clear HO125
   clear HB
   have HO_15 := n0_
   have HO125 := n1_
   have HB := n2_
   have BK126 := n3_
   have GW126 := n4_
   have GE126 := n5_
   clear n0_ n1_ n2_ n3_ n4_ n5_
   clear hb hbox hg
   refine hK.out _ _ ⟨((HB.out.cell (zW w _ hw116_0)).trans hw116_0), ((HB.out.cell (zW w _ hw116_1)).trans hw116_1), ((HB.out.cell (zW w _ hw116_2)).trans hw116_2), ((HB.out.cell (zW w _ hw122_0)).trans hw122_0), ((HB.out.cell (zW w _ hw122_1)).trans hw122_1), ((HB.out.cell (zW w _ hw122_2)).trans hw122_2)⟩ (fun hHeld => ?_)
   clear hK K
   refine norm_ (a' := ?_) ?_ ?_
   rotate_left
   ·show Act.put _ (some 20) _ = _
    simp only [Act.put, List.setIfInBounds_toArray, List.set_cons_zero, List.set_cons_succ, i64_w, i32_w]
    rfl
   exact norm_ (by first | (simp only [putAll, Act.put, List.setIfInBounds_toArray, List.set_cons_zero, List.set_cons_succ]; done) | (simp only [putAll, Act.put, List.setIfInBounds_toArray, List.set_cons_zero, List.set_cons_succ]; rfl)) (hJ9_19_25_31_33 (v120, .slice Ao50 y123.length co50, gb126) _ ⟨hHeld, (by (with_reducible repeat (first | apply zRa | apply zRn | apply zRd)); first | exact HO125.out | (subst_vars; exact HO125.out)), (by (with_reducible repeat (first | apply Kd.S_alloc | apply Kd.S_drewN | apply Kd.S_drew)); first | exact HO_15.out | (subst_vars; exact HO_15.out)), (by (with_reducible repeat (first | apply zNn | apply zNd | apply zNa)); exact BK126.out), GW126.out, GE126.out, (by repeat (first | (with_reducible first | exact HB.out | apply zBa | apply zBn | apply zBd | refine zBs ?_ GE126.out) | exact HB.out))⟩)
 rintro ⟨v120, v124, gb126⟩ w50 ⟨hS_, h0_, h1_, h2_, h3_, h4_, h5_⟩
 have n0_ : Aside0 (Kd.R (Kd.int .i64) 3 w50 w.heap.size (fun _ => True) v124 y123) := ⟨h0_⟩
 have n1_ : Aside0 (Kd.S k54 54 w50 w.heap.size (fun k_ => some k_ ≠ (v124 : Value).ownBlock ∧ k_ ≠ gb126) (.slice Ao18 x15_3.length co18) x15_3) := ⟨h1_⟩
 have n2_ : Aside0 (w50.heap[gb126]? = some (.cells #[.bool false, .int .i64 0, .slice none 0 0] 54 (0, 0))) := ⟨h2_⟩
 have n3_ : Aside0 (w.heap.size ≤ gb126) := ⟨h3_⟩
 have n4_ : Aside0 (w.heap.size ≤ gb126) := ⟨h4_⟩
 have n5_ : Aside0 (Below w.heap.size w w50) := ⟨h5_⟩
 clear HO_15
 clear HB
 clear h0_ h1_ h2_ h3_ h4_ h5_
 have HO125 := n0_
 have HO_15 := n1_
 have BK126 := n2_
 have GW126 := n3_
 have GE126 := n4_
 have HB := n5_
 clear n0_ n1_ n2_ n3_ n4_ n5_
 have hHeld : w50.cell? (ad116.add ((x17_2).toNat * 3)) = some (.bool ((rd_T54 l3 x17_2).f0)) ∧ w50.cell? ⟨(ad116.add ((x17_2).toNat * 3)).block, (ad116.add ((x17_2).toNat * 3)).off + 1, none⟩ = some (.int .i64 ((rd_T54 l3 x17_2).f1)) ∧ w50.cell? ⟨(ad116.add ((x17_2).toNat * 3)).block, (ad116.add ((x17_2).toNat * 3)).off + 2, none⟩ = some (.slice A116_2 ((rd_T54 l3 x17_2).f2).length c116_2) ∧ w50.cell? (ad116.add ((x17_2).toNat * 3)) = some (.bool ((rd_T54 l3 x17_2).f0)) ∧ w50.cell? ⟨(ad116.add ((x17_2).toNat * 3)).block, (ad116.add ((x17_2).toNat * 3)).off + 1, none⟩ = some (.int .i64 ((rd_T54 l3 x17_2).f1)) ∧ w50.cell? ⟨(ad116.add ((x17_2).toNat * 3)).block, (ad116.add ((x17_2).toNat * 3)).off + 2, none⟩ = some (.slice A116_2 ((rd_T54 l3 x17_2).f2).length c116_2) := hS_
 obtain ⟨Ao51, co51, eo51⟩ := Kd.R_slice HO125.out
 (first | subst eo51 | (injection eo51 with f1_ f2_ f3_; have f4_ := f1_.symm; have f5_ := f3_.symm; clear f1_ f2_ f3_; subst f4_; subst f5_))
 refine norm_ (a' := ?_) ?_ ?_
 rotate_left
 ·simp only [putAll, Act.put, List.setIfInBounds_toArray, List.set_cons_zero, List.set_cons_succ]
  rfl
 refine one_ (i := 34) (N := none) #[true, true, true, true, true, true, true, true, true, true, true, true, true, true, true, true, true, true, true, true, true, true, true, true, true, true, true, true, true, true, true, true, true, true, true] rfl rfl (one_of HT_.out (by kernel_rfl)) (by decide) (fun K hK => ?_)
 have hs52 : w50.cell? ⟨gb126, 0, none⟩ = some (.bool false) := (blk_cell BK126.out 0).trans rfl
 have hfs52 := blk_frozen BK126.out 0
 have hs53 : w50.cell? ⟨gb126, 1, none⟩ = some (.int .i64 0) := (blk_cell BK126.out 1).trans rfl
 have hfs53 := blk_frozen BK126.out 1
 have hs54 : w50.cell? ⟨gb126, 2, none⟩ = some (.slice none 0 0) := (blk_cell BK126.out 2).trans rfl
 have hfs54 := blk_frozen BK126.out 2
 refine skip_ (w1 := ?_) (by rfl) rfl ?_ ?_
 rotate_left
 ·go_simp
  rfl
 refine hK.out _ _ ⟨((cell_far (p := ⟨gb126, _, none⟩) (by first | exact Nat.ne_of_lt (Nat.lt_of_lt_of_le (by have := zW _ _ hw116_0; first | rwa [add_block] at this | exact this) GW126.out) | (rw [add_block]; exact Nat.ne_of_lt (Nat.lt_of_lt_of_le (by have := zW _ _ hw116_0; first | rwa [add_block] at this | exact this) GW126.out)) | (show (Addr.add _ _).block ≠ _; rw [add_block]; exact Nat.ne_of_lt (Nat.lt_of_lt_of_le (by have := zW _ _ hw116_0; first | rwa [add_block] at this | exact this) GW126.out)) | (dsimp only; exact Nat.ne_of_lt (Nat.lt_of_lt_of_le (by have := zW _ _ hw116_0; first | rwa [add_block] at this | exact this) GW126.out))) _).trans (((cell_far (p := ⟨gb126, _, none⟩) (by first | exact Nat.ne_of_lt (Nat.lt_of_lt_of_le (by have := zW _ _ hw116_0; first | rwa [add_block] at this | exact this) GW126.out) | (rw [add_block]; exact Nat.ne_of_lt (Nat.lt_of_lt_of_le (by have := zW _ _ hw116_0; first | rwa [add_block] at this | exact this) GW126.out)) | (show (Addr.add _ _).block ≠ _; rw [add_block]; exact Nat.ne_of_lt (Nat.lt_of_lt_of_le (by have := zW _ _ hw116_0; first | rwa [add_block] at this | exact this) GW126.out)) | (dsimp only; exact Nat.ne_of_lt (Nat.lt_of_lt_of_le (by have := zW _ _ hw116_0; first | rwa [add_block] at this | exact this) GW126.out))) _).trans (((cell_far (p := ⟨gb126, _, none⟩) (by first | exact Nat.ne_of_lt (Nat.lt_of_lt_of_le (by have := zW _ _ hw116_0; first | rwa [add_block] at this | exact this) GW126.out) | (rw [add_block]; exact Nat.ne_of_lt (Nat.lt_of_lt_of_le (by have := zW _ _ hw116_0; first | rwa [add_block] at this | exact this) GW126.out)) | (show (Addr.add _ _).block ≠ _; rw [add_block]; exact Nat.ne_of_lt (Nat.lt_of_lt_of_le (by have := zW _ _ hw116_0; first | rwa [add_block] at this | exact this) GW126.out)) | (dsimp only; exact Nat.ne_of_lt (Nat.lt_of_lt_of_le (by have := zW _ _ hw116_0; first | rwa [add_block] at this | exact this) GW126.out))) _).trans (hHeld.1)))))), ((cell_far (p := ⟨gb126, _, none⟩) (by first | exact Nat.ne_of_lt (Nat.lt_of_lt_of_le (by have := zW _ _ hw116_1; first | rwa [add_block] at this | exact this) GW126.out) | (rw [add_block]; exact Nat.ne_of_lt (Nat.lt_of_lt_of_le (by have := zW _ _ hw116_1; first | rwa [add_block] at this | exact this) GW126.out)) | (show (Addr.add _ _).block ≠ _; rw [add_block]; exact Nat.ne_of_lt (Nat.lt_of_lt_of_le (by have := zW _ _ hw116_1; first | rwa [add_block] at this | exact this) GW126.out)) | (dsimp only; exact Nat.ne_of_lt (Nat.lt_of_lt_of_le (by have := zW _ _ hw116_1; first | rwa [add_block] at this | exact this) GW126.out))) _).trans (((cell_far (p := ⟨gb126, _, none⟩) (by first | exact Nat.ne_of_lt (Nat.lt_of_lt_of_le (by have := zW _ _ hw116_1; first | rwa [add_block] at this | exact this) GW126.out) | (rw [add_block]; exact Nat.ne_of_lt (Nat.lt_of_lt_of_le (by have := zW _ _ hw116_1; first | rwa [add_block] at this | exact this) GW126.out)) | (show (Addr.add _ _).block ≠ _; rw [add_block]; exact Nat.ne_of_lt (Nat.lt_of_lt_of_le (by have := zW _ _ hw116_1; first | rwa [add_block] at this | exact this) GW126.out)) | (dsimp only; exact Nat.ne_of_lt (Nat.lt_of_lt_of_le (by have := zW _ _ hw116_1; first | rwa [add_block] at this | exact this) GW126.out))) _).trans (((cell_far (p := ⟨gb126, _, none⟩) (by first | exact Nat.ne_of_lt (Nat.lt_of_lt_of_le (by have := zW _ _ hw116_1; first | rwa [add_block] at this | exact this) GW126.out) | (rw [add_block]; exact Nat.ne_of_lt (Nat.lt_of_lt_of_le (by have := zW _ _ hw116_1; first | rwa [add_block] at this | exact this) GW126.out)) | (show (Addr.add _ _).block ≠ _; rw [add_block]; exact Nat.ne_of_lt (Nat.lt_of_lt_of_le (by have := zW _ _ hw116_1; first | rwa [add_block] at this | exact this) GW126.out)) | (dsimp only; exact Nat.ne_of_lt (Nat.lt_of_lt_of_le (by have := zW _ _ hw116_1; first | rwa [add_block] at this | exact this) GW126.out))) _).trans (hHeld.2.1)))))), ((cell_far (p := ⟨gb126, _, none⟩) (by first | exact Nat.ne_of_lt (Nat.lt_of_lt_of_le (by have := zW _ _ hw116_2; first | rwa [add_block] at this | exact this) GW126.out) | (rw [add_block]; exact Nat.ne_of_lt (Nat.lt_of_lt_of_le (by have := zW _ _ hw116_2; first | rwa [add_block] at this | exact this) GW126.out)) | (show (Addr.add _ _).block ≠ _; rw [add_block]; exact Nat.ne_of_lt (Nat.lt_of_lt_of_le (by have := zW _ _ hw116_2; first | rwa [add_block] at this | exact this) GW126.out)) | (dsimp only; exact Nat.ne_of_lt (Nat.lt_of_lt_of_le (by have := zW _ _ hw116_2; first | rwa [add_block] at this | exact this) GW126.out))) _).trans (((cell_far (p := ⟨gb126, _, none⟩) (by first | exact Nat.ne_of_lt (Nat.lt_of_lt_of_le (by have := zW _ _ hw116_2; first | rwa [add_block] at this | exact this) GW126.out) | (rw [add_block]; exact Nat.ne_of_lt (Nat.lt_of_lt_of_le (by have := zW _ _ hw116_2; first | rwa [add_block] at this | exact this) GW126.out)) | (show (Addr.add _ _).block ≠ _; rw [add_block]; exact Nat.ne_of_lt (Nat.lt_of_lt_of_le (by have := zW _ _ hw116_2; first | rwa [add_block] at this | exact this) GW126.out)) | (dsimp only; exact Nat.ne_of_lt (Nat.lt_of_lt_of_le (by have := zW _ _ hw116_2; first | rwa [add_block] at this | exact this) GW126.out))) _).trans (((cell_far (p := ⟨gb126, _, none⟩) (by first | exact Nat.ne_of_lt (Nat.lt_of_lt_of_le (by have := zW _ _ hw116_2; first | rwa [add_block] at this | exact this) GW126.out) | (rw [add_block]; exact Nat.ne_of_lt (Nat.lt_of_lt_of_le (by have := zW _ _ hw116_2; first | rwa [add_block] at this | exact this) GW126.out)) | (show (Addr.add _ _).block ≠ _; rw [add_block]; exact Nat.ne_of_lt (Nat.lt_of_lt_of_le (by have := zW _ _ hw116_2; first | rwa [add_block] at this | exact this) GW126.out)) | (dsimp only; exact Nat.ne_of_lt (Nat.lt_of_lt_of_le (by have := zW _ _ hw116_2; first | rwa [add_block] at this | exact this) GW126.out))) _).trans (hHeld.2.2.1)))))), ((cell_far (p := ⟨gb126, _, none⟩) (by first | exact Nat.ne_of_lt (Nat.lt_of_lt_of_le (by have := zW _ _ hw122_0; first | rwa [add_block] at this | exact this) GW126.out) | (rw [add_block]; exact Nat.ne_of_lt (Nat.lt_of_lt_of_le (by have := zW _ _ hw122_0; first | rwa [add_block] at this | exact this) GW126.out)) | (show (Addr.add _ _).block ≠ _; rw [add_block]; exact Nat.ne_of_lt (Nat.lt_of_lt_of_le (by have := zW _ _ hw122_0; first | rwa [add_block] at this | exact this) GW126.out)) | (dsimp only; exact Nat.ne_of_lt (Nat.lt_of_lt_of_le (by have := zW _ _ hw122_0; first | rwa [add_block] at this | exact this) GW126.out))) _).trans (((cell_far (p := ⟨gb126, _, none⟩) (by first | exact Nat.ne_of_lt (Nat.lt_of_lt_of_le (by have := zW _ _ hw122_0; first | rwa [add_block] at this | exact this) GW126.out) | (rw [add_block]; exact Nat.ne_of_lt (Nat.lt_of_lt_of_le (by have := zW _ _ hw122_0; first | rwa [add_block] at this | exact this) GW126.out)) | (show (Addr.add _ _).block ≠ _; rw [add_block]; exact Nat.ne_of_lt (Nat.lt_of_lt_of_le (by have := zW _ _ hw122_0; first | rwa [add_block] at this | exact this) GW126.out)) | (dsimp only; exact Nat.ne_of_lt (Nat.lt_of_lt_of_le (by have := zW _ _ hw122_0; first | rwa [add_block] at this | exact this) GW126.out))) _).trans (((cell_far (p := ⟨gb126, _, none⟩) (by first | exact Nat.ne_of_lt (Nat.lt_of_lt_of_le (by have := zW _ _ hw122_0; first | rwa [add_block] at this | exact this) GW126.out) | (rw [add_block]; exact Nat.ne_of_lt (Nat.lt_of_lt_of_le (by have := zW _ _ hw122_0; first | rwa [add_block] at this | exact this) GW126.out)) | (show (Addr.add _ _).block ≠ _; rw [add_block]; exact Nat.ne_of_lt (Nat.lt_of_lt_of_le (by have := zW _ _ hw122_0; first | rwa [add_block] at this | exact this) GW126.out)) | (dsimp only; exact Nat.ne_of_lt (Nat.lt_of_lt_of_le (by have := zW _ _ hw122_0; first | rwa [add_block] at this | exact this) GW126.out))) _).trans (hHeld.2.2.2.1)))))), ((cell_far (p := ⟨gb126, _, none⟩) (by first | exact Nat.ne_of_lt (Nat.lt_of_lt_of_le (by have := zW _ _ hw122_1; first | rwa [add_block] at this | exact this) GW126.out) | (rw [add_block]; exact Nat.ne_of_lt (Nat.lt_of_lt_of_le (by have := zW _ _ hw122_1; first | rwa [add_block] at this | exact this) GW126.out)) | (show (Addr.add _ _).block ≠ _; rw [add_block]; exact Nat.ne_of_lt (Nat.lt_of_lt_of_le (by have := zW _ _ hw122_1; first | rwa [add_block] at this | exact this) GW126.out)) | (dsimp only; exact Nat.ne_of_lt (Nat.lt_of_lt_of_le (by have := zW _ _ hw122_1; first | rwa [add_block] at this | exact this) GW126.out))) _).trans (((cell_far (p := ⟨gb126, _, none⟩) (by first | exact Nat.ne_of_lt (Nat.lt_of_lt_of_le (by have := zW _ _ hw122_1; first | rwa [add_block] at this | exact this) GW126.out) | (rw [add_block]; exact Nat.ne_of_lt (Nat.lt_of_lt_of_le (by have := zW _ _ hw122_1; first | rwa [add_block] at this | exact this) GW126.out)) | (show (Addr.add _ _).block ≠ _; rw [add_block]; exact Nat.ne_of_lt (Nat.lt_of_lt_of_le (by have := zW _ _ hw122_1; first | rwa [add_block] at this | exact this) GW126.out)) | (dsimp only; exact Nat.ne_of_lt (Nat.lt_of_lt_of_le (by have := zW _ _ hw122_1; first | rwa [add_block] at this | exact this) GW126.out))) _).trans (((cell_far (p := ⟨gb126, _, none⟩) (by first | exact Nat.ne_of_lt (Nat.lt_of_lt_of_le (by have := zW _ _ hw122_1; first | rwa [add_block] at this | exact this) GW126.out) | (rw [add_block]; exact Nat.ne_of_lt (Nat.lt_of_lt_of_le (by have := zW _ _ hw122_1; first | rwa [add_block] at this | exact this) GW126.out)) | (show (Addr.add _ _).block ≠ _; rw [add_block]; exact Nat.ne_of_lt (Nat.lt_of_lt_of_le (by have := zW _ _ hw122_1; first | rwa [add_block] at this | exact this) GW126.out)) | (dsimp only; exact Nat.ne_of_lt (Nat.lt_of_lt_of_le (by have := zW _ _ hw122_1; first | rwa [add_block] at this | exact this) GW126.out))) _).trans (hHeld.2.2.2.2.1)))))), ((cell_far (p := ⟨gb126, _, none⟩) (by first | exact Nat.ne_of_lt (Nat.lt_of_lt_of_le (by have := zW _ _ hw122_2; first | rwa [add_block] at this | exact this) GW126.out) | (rw [add_block]; exact Nat.ne_of_lt (Nat.lt_of_lt_of_le (by have := zW _ _ hw122_2; first | rwa [add_block] at this | exact this) GW126.out)) | (show (Addr.add _ _).block ≠ _; rw [add_block]; exact Nat.ne_of_lt (Nat.lt_of_lt_of_le (by have := zW _ _ hw122_2; first | rwa [add_block] at this | exact this) GW126.out)) | (dsimp only; exact Nat.ne_of_lt (Nat.lt_of_lt_of_le (by have := zW _ _ hw122_2; first | rwa [add_block] at this | exact this) GW126.out))) _).trans (((cell_far (p := ⟨gb126, _, none⟩) (by first | exact Nat.ne_of_lt (Nat.lt_of_lt_of_le (by have := zW _ _ hw122_2; first | rwa [add_block] at this | exact this) GW126.out) | (rw [add_block]; exact Nat.ne_of_lt (Nat.lt_of_lt_of_le (by have := zW _ _ hw122_2; first | rwa [add_block] at this | exact this) GW126.out)) | (show (Addr.add _ _).block ≠ _; rw [add_block]; exact Nat.ne_of_lt (Nat.lt_of_lt_of_le (by have := zW _ _ hw122_2; first | rwa [add_block] at this | exact this) GW126.out)) | (dsimp only; exact Nat.ne_of_lt (Nat.lt_of_lt_of_le (by have := zW _ _ hw122_2; first | rwa [add_block] at this | exact this) GW126.out))) _).trans (((cell_far (p := ⟨gb126, _, none⟩) (by first | exact Nat.ne_of_lt (Nat.lt_of_lt_of_le (by have := zW _ _ hw122_2; first | rwa [add_block] at this | exact this) GW126.out) | (rw [add_block]; exact Nat.ne_of_lt (Nat.lt_of_lt_of_le (by have := zW _ _ hw122_2; first | rwa [add_block] at this | exact this) GW126.out)) | (show (Addr.add _ _).block ≠ _; rw [add_block]; exact Nat.ne_of_lt (Nat.lt_of_lt_of_le (by have := zW _ _ hw122_2; first | rwa [add_block] at this | exact this) GW126.out)) | (dsimp only; exact Nat.ne_of_lt (Nat.lt_of_lt_of_le (by have := zW _ _ hw122_2; first | rwa [add_block] at this | exact this) GW126.out))) _).trans (hHeld.2.2.2.2.2))))))⟩ (fun hHeld => ?_)
 clear hK K
 refine done_ (done_of HT_.out (by kernel_rfl)) ?_
 have n0_ : Aside0 (Kd.S k54 54 (((w50.setCell ⟨gb126, 0, none⟩ (.bool false)).setCell ⟨gb126, 1, none⟩ (.int .i64 (wrap64 ((wrap64 (((rd_T54 l3 x17_2).f1) + (wrap64 (a4 * (wrap64 ((wrap64 (2 * (Int.tmod t117 2))) - 1)))))) + (wrap64 (a5 * (wrap64 ((wrap64 (2 * (Int.tmod t118 2))) - 1)))))))).setCell ⟨gb126, 2, none⟩ (.slice Ao51 y123.length co51)) w.heap.size (fun k_ => some k_ ≠ (.slice Ao51 y123.length co51 : Value).ownBlock ∧ k_ ≠ gb126) (.slice Ao18 x15_3.length co18) x15_3) := ⟨by (with_reducible repeat (first | apply Kd.S_alloc | apply Kd.S_drewN | apply Kd.S_drew)); first | exact Kd.S_mono (Kd.S_far (p := ⟨gb126, 2, none⟩) (Kd.S_far (p := ⟨gb126, 1, none⟩) (Kd.S_far (p := ⟨gb126, 0, none⟩) (Kd.S_mono HO_15.out (fun k_ hk => (⟨hk, hk.2⟩ : _ ∧ k_ ≠ gb126))) (fun _ hk => hk.2) (.bool false)) (fun _ hk => hk.2) (.int .i64 (wrap64 ((wrap64 (((rd_T54 l3 x17_2).f1) + (wrap64 (a4 * (wrap64 ((wrap64 (2 * (Int.tmod t117 2))) - 1)))))) + (wrap64 (a5 * (wrap64 ((wrap64 (2 * (Int.tmod t118 2))) - 1)))))))) (fun _ hk => hk.2) (.slice Ao51 y123.length co51)) (fun _ hk => ⟨hk.1.1, hk.1.2⟩) | (subst_vars; exact Kd.S_mono (Kd.S_far (p := ⟨gb126, 2, none⟩) (Kd.S_far (p := ⟨gb126, 1, none⟩) (Kd.S_far (p := ⟨gb126, 0, none⟩) (Kd.S_mono HO_15.out (fun k_ hk => (⟨hk, hk.2⟩ : _ ∧ k_ ≠ gb126))) (fun _ hk => hk.2) (.bool false)) (fun _ hk => hk.2) (.int .i64 (wrap64 ((wrap64 (((rd_T54 l3 x17_2).f1) + (wrap64 (a4 * (wrap64 ((wrap64 (2 * (Int.tmod t117 2))) - 1)))))) + (wrap64 (a5 * (wrap64 ((wrap64 (2 * (Int.tmod t118 2))) - 1)))))))) (fun _ hk => hk.2) (.slice Ao51 y123.length co51)) (fun _ hk => ⟨hk.1.1, hk.1.2⟩))⟩
 have n1_ : Aside0 (Kd.R (Kd.int .i64) 3 (((w50.setCell ⟨gb126, 0, none⟩ (.bool false)).setCell ⟨gb126, 1, none⟩ (.int .i64 (wrap64 ((wrap64 (((rd_T54 l3 x17_2).f1) + (wrap64 (a4 * (wrap64 ((wrap64 (2 * (Int.tmod t117 2))) - 1)))))) + (wrap64 (a5 * (wrap64 ((wrap64 (2 * (Int.tmod t118 2))) - 1)))))))).setCell ⟨gb126, 2, none⟩ (.slice Ao51 y123.length co51)) w.heap.size (fun _ => True) (.slice Ao51 y123.length co51) y123) := ⟨by (with_reducible repeat (first | apply zRa | apply zRn | apply zRd)); first | exact Kd.R_mono (Kd.R_far (p := ⟨gb126, 2, none⟩) (Kd.R_far (p := ⟨gb126, 1, none⟩) (Kd.R_far (p := ⟨gb126, 0, none⟩) (Kd.R_types HO125.out BK126.out (by decide)) (fun _ hk => hk.2) (.bool false)) (fun _ hk => hk.2) (.int .i64 (wrap64 ((wrap64 (((rd_T54 l3 x17_2).f1) + (wrap64 (a4 * (wrap64 ((wrap64 (2 * (Int.tmod t117 2))) - 1)))))) + (wrap64 (a5 * (wrap64 ((wrap64 (2 * (Int.tmod t118 2))) - 1)))))))) (fun _ hk => hk.2) (.slice Ao51 y123.length co51)) (fun _ hk => trivial) | (subst_vars; exact Kd.R_mono (Kd.R_far (p := ⟨gb126, 2, none⟩) (Kd.R_far (p := ⟨gb126, 1, none⟩) (Kd.R_far (p := ⟨gb126, 0, none⟩) (Kd.R_types HO125.out BK126.out (by decide)) (fun _ hk => hk.2) (.bool false)) (fun _ hk => hk.2) (.int .i64 (wrap64 ((wrap64 (((rd_T54 l3 x17_2).f1) + (wrap64 (a4 * (wrap64 ((wrap64 (2 * (Int.tmod t117 2))) - 1)))))) + (wrap64 (a5 * (wrap64 ((wrap64 (2 * (Int.tmod t118 2))) - 1)))))))) (fun _ hk => hk.2) (.slice Ao51 y123.length co51)) (fun _ hk => trivial))⟩
 have n2_ : Aside0 ((((w50.setCell ⟨gb126, 0, none⟩ (.bool false)).setCell ⟨gb126, 1, none⟩ (.int .i64 (wrap64 ((wrap64 (((rd_T54 l3 x17_2).f1) + (wrap64 (a4 * (wrap64 ((wrap64 (2 * (Int.tmod t117 2))) - 1)))))) + (wrap64 (a5 * (wrap64 ((wrap64 (2 * (Int.tmod t118 2))) - 1)))))))).setCell ⟨gb126, 2, none⟩ (.slice Ao51 y123.length co51)).heap[gb126]? = some (.cells #[.bool false, .int .i64 (wrap64 ((wrap64 (((rd_T54 l3 x17_2).f1) + (wrap64 (a4 * (wrap64 ((wrap64 (2 * (Int.tmod t117 2))) - 1)))))) + (wrap64 (a5 * (wrap64 ((wrap64 (2 * (Int.tmod t118 2))) - 1)))))), .slice Ao51 y123.length co51] 54 (0, 0))) := ⟨by (with_reducible repeat (first | apply zNn | apply zNd | apply zNa)); refine blk_put (cs := #[.bool false, .int .i64 (wrap64 ((wrap64 (((rd_T54 l3 x17_2).f1) + (wrap64 (a4 * (wrap64 ((wrap64 (2 * (Int.tmod t117 2))) - 1)))))) + (wrap64 (a5 * (wrap64 ((wrap64 (2 * (Int.tmod t118 2))) - 1)))))), .slice none 0 0]) ?_ 2 _ rfl; (with_reducible repeat (first | apply zNn | apply zNd | apply zNa)); refine blk_put (cs := #[.bool false, .int .i64 0, .slice none 0 0]) ?_ 1 _ rfl; (with_reducible repeat (first | apply zNn | apply zNd | apply zNa)); refine blk_put (cs := #[.bool false, .int .i64 0, .slice none 0 0]) ?_ 0 _ rfl; (with_reducible repeat (first | apply zNn | apply zNd | apply zNa)); exact BK126.out⟩
 have n3_ : Aside0 (Below w.heap.size w (((w50.setCell ⟨gb126, 0, none⟩ (.bool false)).setCell ⟨gb126, 1, none⟩ (.int .i64 (wrap64 ((wrap64 (((rd_T54 l3 x17_2).f1) + (wrap64 (a4 * (wrap64 ((wrap64 (2 * (Int.tmod t117 2))) - 1)))))) + (wrap64 (a5 * (wrap64 ((wrap64 (2 * (Int.tmod t118 2))) - 1)))))))).setCell ⟨gb126, 2, none⟩ (.slice Ao51 y123.length co51))) := ⟨by repeat (first | (with_reducible first | exact HB.out | apply zBa | apply zBn | apply zBd | refine zBs ?_ GE126.out) | exact HB.out)⟩
 (try clear HO_15)
 (try clear HO125)
 (try clear BK126)
 (try clear HB)
 generalize (((w50.setCell ⟨gb126, 0, none⟩ (.bool false)).setCell ⟨gb126, 1, none⟩ (.int .i64 (wrap64 ((wrap64 (((rd_T54 l3 x17_2).f1) + (wrap64 (a4 * (wrap64 ((wrap64 (2 * (Int.tmod t117 2))) - 1)))))) + (wrap64 (a5 * (wrap64 ((wrap64 (2 * (Int.tmod t118 2))) - 1)))))))).setCell ⟨gb126, 2, none⟩ (.slice Ao51 y123.length co51)) = w55 at n0_ n1_ n2_ n3_ ⊢
 have HO_15 := n0_
 have HO125 := n1_
 have BK126 := n2_
 have HB := n3_
 clear n0_ n1_ n2_ n3_
 exact hK _ _ _ _ _ _ _ _ _ _ _ _ _ _ _ _ _ _ _ _ _ _ _ _ _ _ _ _ _ _ _ _ _ _ _ _ _ HO_15 HO125 BK126 HB GW126 GE126
def l15Bet (k : Nat) (s : Int) (y : List Int) (o : S54) : Option Bool := if o.f0 = true then some true else (if s > o.f1 then some true else (if s = o.f1 then spec_l15First.f k y o.f2 else some false))
theorem l15Bet.mono (s : Int) (y : List Int) (o : S54) (k : Nat) : LeO (l15Bet k s y o) (l15Bet (k + 1) s y o) := by
 unfold l15Bet
 exact LeO.ite (LeO.refl _) (LeO.ite (LeO.refl _) (LeO.ite (spec_l15First.mono _ _ _) (LeO.refl _)))
end Go.Proofs.Ytoggbgkpeigfmaa.PFnScored
