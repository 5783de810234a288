-- Written by a turned copy of the print (see the notes of this repo): plain functions and their walks. Lean checks it.
import Derived.Test.YtbhjgkbikmjaaaaPFnQtySumsx0
import Derived.Test.YtbhjgkbikmjaaaaPFnQtySumsx3
import Derived.Test.YtbhjgkbikmjaaaaPFnQtySumsx4
namespace Go.Proofs.Ytbhjgkbikmjaaaa.PFnQtySums
open Go.RowKit Go.Proofs.YtbhjgkbikmjaaaaW.PrintWords Go.Proofs.YtbhjgkbikmjaaaaW.PrintLast Go.Proofs.YtbhjgkbikmjaaaaW.PrintMore
attribute [local go_sem] max2_int min2_int max_two min_two max_three min_three max_four min_four   -- for this text's walks alone
set_option linter.unusedVariables false
set_option linter.unusedSimpArgs false

/-! ### impl_AddQty: function 20 -/
mutual
def impl_AddQty.j0 : Nat → Bool → Int → Int → Int → Int → Int → Int → Int → Int → Option (Int × Int × Int × Int × Bool)
 | 0, _, _, _, _, _, _, _, _, _ => none
 | k + 1, x27, x225000, x225001, x225002, x225003, x226000, x226001, x226002, x226003 => if x27 = true then (some (0, 0, 0, 0, false)) else (if x225000 = 0 then (some (x226000, x226001, x226002, x226003, true)) else (if x226000 = 0 then (some (x225000, x225001, x225002, x225003, true)) else (if x225001 > x226001 then (impl_AddQty.j1 k x226000 x226001 x226002 x226003 x225000 x225001 x225002 x225003) else (impl_AddQty.j1 k x225000 x225001 x225002 x225003 x226000 x226001 x226002 x226003))))
def impl_AddQty.j1 : Nat → Int → Int → Int → Int → Int → Int → Int → Int → Option (Int × Int × Int × Int × Bool)
 | 0, _, _, _, _, _, _, _, _ => none
 | k + 1, x225000, x225001, x225002, x225003, x226000, x226001, x226002, x226003 => if (wrap64 (x226001 - x225001)) > 9 then (some (0, 0, 0, 0, false)) else (impl_AddQty.l0 k x225000 x225001 x225002 x225003 x226000 x226001 x226002 x226003)
def impl_AddQty.l0 : Nat → Int → Int → Int → Int → Int → Int → Int → Int → Option (Int × Int × Int × Int × Bool)
 | 0, _, _, _, _, _, _, _, _ => none
 | k + 1, x225000, x225001, x225002, x225003, x226000, x226001, x226002, x226003 => if x226001 > x225001 then (impl_AddQty.l0 k x225000 x225001 x225002 x225003 (wrap64 (x226000 * 10)) (wrap64 (x226001 - 1)) x226002 x226003) else ((impl_right.f k (wrap64 (x225000 + x226000)) x225001 x225002 x225003).bind fun bt229 => (some (bt229.1, bt229.2.1, bt229.2.2.1, bt229.2.2.2.1, bt229.2.2.2.2)))
end
def impl_AddQty.f (k : Nat) (a0_0 : Int) (a0_1 : Int) (a0_2 : Int) (a0_3 : Int) (a1_0 : Int) (a1_1 : Int) (a1_2 : Int) (a1_3 : Int) : Option (Int × Int × Int × Int × Bool) := (impl_QtyOk.f a0_0 a0_1 a0_2 a0_3).bind fun t227 => (if t227 = true then ((impl_QtyOk.f a1_0 a1_1 a1_2 a1_3).bind fun t228 => (if t228 = true then (if a0_2 = a1_2 then (impl_AddQty.j0 k (a0_3 != a1_3) a0_0 a0_1 a0_2 a0_3 a1_0 a1_1 a1_2 a1_3) else (impl_AddQty.j0 k true a0_0 a0_1 a0_2 a0_3 a1_0 a1_1 a1_2 a1_3)) else (impl_AddQty.j0 k true a0_0 a0_1 a0_2 a0_3 a1_0 a1_1 a1_2 a1_3))) else (impl_AddQty.j0 k true a0_0 a0_1 a0_2 a0_3 a1_0 a1_1 a1_2 a1_3))
theorem impl_AddQty.mono_l : ∀ k, (∀ y0 y1 y2 y3 y4 y5 y6 y7 y8, LeO (impl_AddQty.j0 k y0 y1 y2 y3 y4 y5 y6 y7 y8) (impl_AddQty.j0 (k + 1) y0 y1 y2 y3 y4 y5 y6 y7 y8)) ∧ (∀ y0 y1 y2 y3 y4 y5 y6 y7, LeO (impl_AddQty.j1 k y0 y1 y2 y3 y4 y5 y6 y7) (impl_AddQty.j1 (k + 1) y0 y1 y2 y3 y4 y5 y6 y7)) ∧ (∀ y0 y1 y2 y3 y4 y5 y6 y7, LeO (impl_AddQty.l0 k y0 y1 y2 y3 y4 y5 y6 y7) (impl_AddQty.l0 (k + 1) y0 y1 y2 y3 y4 y5 y6 y7))
 | 0 => ⟨fun _ _ _ _ _ _ _ _ _ r h => by simp [impl_AddQty.j0] at h, fun _ _ _ _ _ _ _ _ r h => by simp [impl_AddQty.j1] at h, fun _ _ _ _ _ _ _ _ r h => by simp [impl_AddQty.l0] at h⟩
 | k + 1 => by
  obtain ⟨ih0, ih1, ih2⟩ := impl_AddQty.mono_l k
  refine ⟨?_, ?_, ?_⟩
  ·intro y0 y1 y2 y3 y4 y5 y6 y7 y8
   unfold impl_AddQty.j0
   repeat' first
   | (with_reducible exact ih0 _ _ _ _ _ _ _ _ _)
   | (with_reducible exact ih1 _ _ _ _ _ _ _ _)
   | (with_reducible exact ih2 _ _ _ _ _ _ _ _)
   | (with_reducible exact impl_right.mono _ _ _ _ _)
   | (with_reducible exact LeO.refl _)
   | (with_reducible exact LeO.none _)
   | (with_reducible refine LeO.ite ?_ ?_)
   | (with_reducible refine LeO.bind ?_ (fun _ => ?_))
   | exact ih0 _ _ _ _ _ _ _ _ _
   | exact ih1 _ _ _ _ _ _ _ _
   | exact ih2 _ _ _ _ _ _ _ _
   | exact impl_right.mono _ _ _ _ _
   | exact LeO.none _
   | refine LeO.ite ?_ ?_
   | refine LeO.bind ?_ (fun _ => ?_)
  ·intro y0 y1 y2 y3 y4 y5 y6 y7
   unfold impl_AddQty.j1
   repeat' first
   | (with_reducible exact ih0 _ _ _ _ _ _ _ _ _)
   | (with_reducible exact ih1 _ _ _ _ _ _ _ _)
   | (with_reducible exact ih2 _ _ _ _ _ _ _ _)
   | (with_reducible exact impl_right.mono _ _ _ _ _)
   | (with_reducible exact LeO.refl _)
   | (with_reducible exact LeO.none _)
   | (with_reducible refine LeO.ite ?_ ?_)
   | (with_reducible refine LeO.bind ?_ (fun _ => ?_))
   | exact ih0 _ _ _ _ _ _ _ _ _
   | exact ih1 _ _ _ _ _ _ _ _
   | exact ih2 _ _ _ _ _ _ _ _
   | exact impl_right.mono _ _ _ _ _
   | exact LeO.none _
   | refine LeO.ite ?_ ?_
   | refine LeO.bind ?_ (fun _ => ?_)
  ·intro y0 y1 y2 y3 y4 y5 y6 y7
   unfold impl_AddQty.l0
   repeat' first
   | (with_reducible exact ih0 _ _ _ _ _ _ _ _ _)
   | (with_reducible exact ih1 _ _ _ _ _ _ _ _)
   | (with_reducible exact ih2 _ _ _ _ _ _ _ _)
   | (with_reducible exact impl_right.mono _ _ _ _ _)
   | (with_reducible exact LeO.refl _)
   | (with_reducible exact LeO.none _)
   | (with_reducible refine LeO.ite ?_ ?_)
   | (with_reducible refine LeO.bind ?_ (fun _ => ?_))
   | exact ih0 _ _ _ _ _ _ _ _ _
   | exact ih1 _ _ _ _ _ _ _ _
   | exact ih2 _ _ _ _ _ _ _ _
   | exact impl_right.mono _ _ _ _ _
   | exact LeO.none _
   | refine LeO.ite ?_ ?_
   | refine LeO.bind ?_ (fun _ => ?_)
theorem impl_AddQty.mono : ∀ a0 a1 a2 a3 a4 a5 a6 a7 k, LeO (impl_AddQty.f k a0 a1 a2 a3 a4 a5 a6 a7) (impl_AddQty.f (k + 1) a0 a1 a2 a3 a4 a5 a6 a7) := by
 intro a0 a1 a2 a3 a4 a5 a6 a7 k
 obtain ⟨ih0, ih1, ih2⟩ := impl_AddQty.mono_l k
 unfold impl_AddQty.f
 repeat' first
  | (with_reducible exact ih0 _ _ _ _ _ _ _ _ _)
  | (with_reducible exact ih1 _ _ _ _ _ _ _ _)
  | (with_reducible exact ih2 _ _ _ _ _ _ _ _)
  | (with_reducible exact impl_right.mono _ _ _ _ _)
  | (with_reducible exact LeO.refl _)
  | (with_reducible exact LeO.none _)
  | (with_reducible refine LeO.ite ?_ ?_)
  | (with_reducible refine LeO.bind ?_ (fun _ => ?_))
  | exact ih0 _ _ _ _ _ _ _ _ _
  | exact ih1 _ _ _ _ _ _ _ _
  | exact ih2 _ _ _ _ _ _ _ _
  | exact impl_right.mono _ _ _ _ _
  | exact LeO.none _
  | refine LeO.ite ?_ ?_
  | refine LeO.bind ?_ (fun _ => ?_)
set_option maxHeartbeats 8000000 in
set_option maxRecDepth 100000 in
theorem impl_AddQty.calls (k : Nat) (a0_0 : Int) (a0_1 : Int) (a0_2 : Int) (a0_3 : Int) (a1_0 : Int) (a1_1 : Int) (a1_2 : Int) (a1_3 : Int) (r1 : Int) (r2 : Int) (r3 : Int) (r4 : Int) (r5 : Bool) (w : World) (h : impl_AddQty.f k a0_0 a0_1 a0_2 a0_3 a1_0 a1_1 a1_2 a1_3 = some (r1, r2, r3, r4, r5)) :
 Calls Try.prog 20 #[.agg #[.int .i64 a0_0, .int .i64 a0_1, .int .i64 a0_2, .int .i64 a0_3], .agg #[.int .i64 a1_0, .int .i64 a1_1, .int .i64 a1_2, .int .i64 a1_3]] w fun e w' => e = .returned (.tuple #[.agg #[.int .i64 r1, .int .i64 r2, .int .i64 r3, .int .i64 r4], .bool r5]) ∧ Below w.heap.size w w' := by
 have hu37 := Try.underlying37
 have HB := Aside0.mk (Below.refl w.heap.size w)
 have H : ((impl_QtyOk.f a0_0 a0_1 a0_2 a0_3).bind fun t227 => (if t227 = true then ((impl_QtyOk.f a1_0 a1_1 a1_2 a1_3).bind fun t228 => (if t228 = true then (if a0_2 = a1_2 then (impl_AddQty.j0 k (a0_3 != a1_3) a0_0 a0_1 a0_2 a0_3 a1_0 a1_1 a1_2 a1_3) else (impl_AddQty.j0 k true a0_0 a0_1 a0_2 a0_3 a1_0 a1_1 a1_2 a1_3)) else (impl_AddQty.j0 k true a0_0 a0_1 a0_2 a0_3 a1_0 a1_1 a1_2 a1_3))) else (impl_AddQty.j0 k true a0_0 a0_1 a0_2 a0_3 a1_0 a1_1 a1_2 a1_3))) = some (r1, r2, r3, r4, r5) := h
 clear h
 have HC3 := Aside0.mk H
 clear H
 go_enter Try.func20, Try.ntmps20
 go_upto_region 1 with (first | ((with_reducible refine gate_dst (N := 2) rfl ?_); refine box_event ?hg (N := 2) ?hd (cs := #[.int .i64 a0_0, .int .i64 a0_1, .int .i64 a0_2, .int .i64 a0_3]) (t := 37) ?hr ?_; (case hd => rfl); (case hg => rfl); (case hr => first | (go_simp; done) | (go_simp; rfl)); intro gb224 hg w4 hbox hb; have n0_ := Aside0.mk (below_step (by repeat (first | (with_reducible first | exact HB.out | apply zBa | apply zBn | apply zBd) | exact HB.out)) hb); have n1_ := Aside0.mk (hbox); have n2_ := Aside0.mk ((by rw [hg]; exact (below_size (by repeat (first | (with_reducible first | exact HB.out | apply zBa | apply zBn | apply zBd) | exact HB.out))) : w.heap.size ≤ gb224)); have n3_ := Aside0.mk ((by rw [hg]; exact (below_size (by repeat (first | (with_reducible first | exact HB.out | apply zBa | apply zBn | apply zBd) | exact HB.out))) : w.heap.size ≤ gb224)); clear HB; have HB := n0_; have BK224 := n1_; have GW224 := n2_; have GE224 := n3_; clear n0_ n1_ n2_ n3_; clear hb hbox hg) | ((with_reducible refine gate_dst (N := 3) rfl ?_); refine box_event ?hg (N := 3) ?hd (cs := #[.int .i64 a1_0, .int .i64 a1_1, .int .i64 a1_2, .int .i64 a1_3]) (t := 37) ?hr ?_; (case hd => rfl); (case hg => rfl); (case hr => first | (go_simp; done) | (go_simp; rfl)); intro gb225 hg w5 hbox hb; have n0_ := Aside0.mk (zNb (g := gb224) (o := .cells #[.int .i64 a0_0, .int .i64 a0_1, .int .i64 a0_2, .int .i64 a0_3] 37 (0, 0)) (by (with_reducible repeat (first | apply zNn | apply zNd | apply zNa)); exact BK224.out) hb); have n1_ := Aside0.mk (below_step (by repeat (first | (with_reducible first | exact HB.out | apply zBa | apply zBn | apply zBd | refine zBs ?_ GE224.out) | exact HB.out)) hb); have n2_ := Aside0.mk (hbox); have n3_ := Aside0.mk ((by rw [hg]; exact (below_size (by repeat (first | (with_reducible first | exact HB.out | apply zBa | apply zBn | apply zBd | refine zBs ?_ GE224.out) | exact HB.out))) : w.heap.size ≤ gb225)); have n4_ := Aside0.mk ((by rw [hg]; exact (below_size (by repeat (first | (with_reducible first | exact HB.out | apply zBa | apply zBn | apply zBd | refine zBs ?_ GE224.out) | exact HB.out))) : w.heap.size ≤ gb225)); have n5_ := Aside0.mk ((by rw [hg]; exact Nat.ne_of_lt (blk_lt (g := gb224) (o := .cells #[.int .i64 a0_0, .int .i64 a0_1, .int .i64 a0_2, .int .i64 a0_3] 37 (0, 0)) (by (with_reducible repeat (first | apply zNn | apply zNd | apply zNa)); exact BK224.out)) : gb224 ≠ gb225)); have n6_ := Aside0.mk ((by rw [hg]; exact Nat.ne_of_gt (blk_lt (g := gb224) (o := .cells #[.int .i64 a0_0, .int .i64 a0_1, .int .i64 a0_2, .int .i64 a0_3] 37 (0, 0)) (by (with_reducible repeat (first | apply zNn | apply zNd | apply zNa)); exact BK224.out)) : gb225 ≠ gb224)); clear BK224; clear HB; have BK224 := n0_; have HB := n1_; have BK225 := n2_; have GW225 := n3_; have GE225 := n4_; have NB224_225 := n5_; have NB225_224 := n6_; clear n0_ n1_ n2_ n3_ n4_ n5_ n6_; clear hb hbox hg) | ((with_reducible refine gate_dst (N := 4) rfl ?_); refine box_event ?hg (N := 4) ?hd (cs := #[.int .i64 0, .int .i64 0, .int .i64 0, .int .i64 0]) (t := 37) ?hr ?_; (case hd => rfl); (case hg => rfl); (case hr => first | (go_simp; done) | (go_simp; rfl)); intro gb226 hg w6 hbox hb; have n0_ := Aside0.mk (zNb (g := gb224) (o := .cells #[.int .i64 a0_0, .int .i64 a0_1, .int .i64 a0_2, .int .i64 a0_3] 37 (0, 0)) (by (with_reducible repeat (first | apply zNn | apply zNd | apply zNa)); exact BK224.out) hb); have n1_ := Aside0.mk (zNb (g := gb225) (o := .cells #[.int .i64 a1_0, .int .i64 a1_1, .int .i64 a1_2, .int .i64 a1_3] 37 (0, 0)) (by (with_reducible repeat (first | apply zNn | apply zNd | apply zNa)); exact BK225.out) hb); have n2_ := Aside0.mk (below_step (by repeat (first | (with_reducible first | exact HB.out | apply zBa | apply zBn | apply zBd | refine zBs ?_ GE224.out | refine zBs ?_ GE225.out) | exact HB.out)) hb); have n3_ := Aside0.mk (hbox); have n4_ := Aside0.mk ((by rw [hg]; exact (below_size (by repeat (first | (with_reducible first | exact HB.out | apply zBa | apply zBn | apply zBd | refine zBs ?_ GE224.out | refine zBs ?_ GE225.out) | exact HB.out))) : w.heap.size ≤ gb226)); have n5_ := Aside0.mk ((by rw [hg]; exact (below_size (by repeat (first | (with_reducible first | exact HB.out | apply zBa | apply zBn | apply zBd | refine zBs ?_ GE224.out | refine zBs ?_ GE225.out) | exact HB.out))) : w.heap.size ≤ gb226)); have n6_ := Aside0.mk ((by rw [hg]; exact Nat.ne_of_lt (blk_lt (g := gb224) (o := .cells #[.int .i64 a0_0, .int .i64 a0_1, .int .i64 a0_2, .int .i64 a0_3] 37 (0, 0)) (by (with_reducible repeat (first | apply zNn | apply zNd | apply zNa)); exact BK224.out)) : gb224 ≠ gb226)); have n7_ := Aside0.mk ((by rw [hg]; exact Nat.ne_of_gt (blk_lt (g := gb224) (o := .cells #[.int .i64 a0_0, .int .i64 a0_1, .int .i64 a0_2, .int .i64 a0_3] 37 (0, 0)) (by (with_reducible repeat (first | apply zNn | apply zNd | apply zNa)); exact BK224.out)) : gb226 ≠ gb224)); have n8_ := Aside0.mk ((by rw [hg]; exact Nat.ne_of_lt (blk_lt (g := gb225) (o := .cells #[.int .i64 a1_0, .int .i64 a1_1, .int .i64 a1_2, .int .i64 a1_3] 37 (0, 0)) (by (with_reducible repeat (first | apply zNn | apply zNd | apply zNa)); exact BK225.out)) : gb225 ≠ gb226)); have n9_ := Aside0.mk ((by rw [hg]; exact Nat.ne_of_gt (blk_lt (g := gb225) (o := .cells #[.int .i64 a1_0, .int .i64 a1_1, .int .i64 a1_2, .int .i64 a1_3] 37 (0, 0)) (by (with_reducible repeat (first | apply zNn | apply zNd | apply zNa)); exact BK225.out)) : gb226 ≠ gb225)); clear BK224; clear BK225; clear HB; have BK224 := n0_; have BK225 := n1_; have HB := n2_; have BK226 := n3_; have GW226 := n4_; have GE226 := n5_; have NB224_226 := n6_; have NB226_224 := n7_; have NB225_226 := n8_; have NB226_225 := n9_; clear n0_ n1_ n2_ n3_ n4_ n5_ n6_ n7_ n8_ n9_; clear hb hbox hg))
 (try simp only [Act.put, List.setIfInBounds_toArray, List.set_cons_zero, List.set_cons_succ])
 go_cut [27] (fun v27 wc => ∃ (kq : Nat) (x27_2 : Bool), v27 = .bool x27_2 ∧ Aside0 (impl_AddQty.j0 kq x27_2 a0_0 a0_1 a0_2 a0_3 a1_0 a1_1 a1_2 a1_3 = some (r1, r2, r3, r4, r5)) ∧ Aside0 (kq ≤ k) ∧ Aside0 (wc.heap[gb224]? = some (.cells #[.int .i64 a0_0, .int .i64 a0_1, .int .i64 a0_2, .int .i64 a0_3] 37 (0, 0))) ∧ Aside0 (wc.heap[gb225]? = some (.cells #[.int .i64 a1_0, .int .i64 a1_1, .int .i64 a1_2, .int .i64 a1_3] 37 (0, 0))) ∧ Aside0 (wc.heap[gb226]? = some (.cells #[.int .i64 0, .int .i64 0, .int .i64 0, .int .i64 0] 37 (0, 0))) ∧ Aside0 (Below w.heap.size w wc))
 case first =>
  have H := HC3.out
  clear HC3
  replace H := Option.bind_eq_some_iff.mp H
  obtain ⟨t227, A70, H⟩ := H
  replace H : (if t227 = true then ((impl_QtyOk.f a1_0 a1_1 a1_2 a1_3).bind fun t228 => (if t228 = true then (if a0_2 = a1_2 then (impl_AddQty.j0 k (a0_3 != a1_3) a0_0 a0_1 a0_2 a0_3 a1_0 a1_1 a1_2 a1_3) else (impl_AddQty.j0 k true a0_0 a0_1 a0_2 a0_3 a1_0 a1_1 a1_2 a1_3)) else (impl_AddQty.j0 k true a0_0 a0_1 a0_2 a0_3 a1_0 a1_1 a1_2 a1_3))) else (impl_AddQty.j0 k true a0_0 a0_1 a0_2 a0_3 a1_0 a1_1 a1_2 a1_3)) = some (r1, r2, r3, r4, r5) := H
  have A7 := Aside0.mk A70
  clear A70
  by_cases c8 : t227 = true
  case neg =>
   replace c8 := Bool.eq_false_iff.mpr c8
   subst c8
   have H1 : (impl_AddQty.j0 k true a0_0 a0_1 a0_2 a0_3 a1_0 a1_1 a1_2 a1_3) = some (r1, r2, r3, r4, r5) := by rw [if_neg (show ¬ (false = true) by decide)] at H; exact H
   clear H
   have H := H1
   clear H1
   have H' := Aside0.mk H
   clear H
   have hnb37 := NB224_225.out
   have hnc37 := NB225_224.out
   have hnb38 := NB224_226.out
   have hnc38 := NB226_224.out
   have hcz39_0 : w6.cell? ⟨gb224, 0, none⟩ = some (.int .i64 a0_0) := (blk_cell BK224.out 0).trans rfl
   have hcz39_1 : w6.cell? ⟨gb224, 1, none⟩ = some (.int .i64 a0_1) := (blk_cell BK224.out 1).trans rfl
   have hcz39_2 : w6.cell? ⟨gb224, 2, none⟩ = some (.int .i64 a0_2) := (blk_cell BK224.out 2).trans rfl
   have hcz39_3 : w6.cell? ⟨gb224, 3, none⟩ = some (.int .i64 a0_3) := (blk_cell BK224.out 3).trans rfl
   have hfz39_0 := blk_frozen BK224.out 0
   have hfz39_1 := blk_frozen BK224.out 1
   have hfz39_2 := blk_frozen BK224.out 2
   have hfz39_3 := blk_frozen BK224.out 3
   go_wp2_with (first | ((with_reducible refine gate_callee (f := 44) rfl ?_); refine goesL_ (some 7) rfl rfl Try.func44 (by kernel_rfl) rfl #[.agg #[.int .i64 a0_0, .int .i64 a0_1, .int .i64 a0_2, .int .i64 a0_3]] rfl (by (try simp only [List.map_toArray, List.map_cons, List.map_nil]); first | done | rfl | (simp only [List.length_drop, List.length_take]; rfl)) ?_; (with_reducible refine (impl_QtyOk.calls a0_0 a0_1 a0_2 a0_3 false _ A7.out).mono ?_); rintro e w40 ⟨rfl, hb⟩; refine ⟨_, rfl, ?_⟩; have n0_ := Aside0.mk (zNb (g := gb224) (o := .cells #[.int .i64 a0_0, .int .i64 a0_1, .int .i64 a0_2, .int .i64 a0_3] 37 (0, 0)) (by (with_reducible repeat (first | apply zNn | apply zNd | apply zNa)); exact BK224.out) hb); have n1_ := Aside0.mk (zNb (g := gb225) (o := .cells #[.int .i64 a1_0, .int .i64 a1_1, .int .i64 a1_2, .int .i64 a1_3] 37 (0, 0)) (by (with_reducible repeat (first | apply zNn | apply zNd | apply zNa)); exact BK225.out) hb); have n2_ := Aside0.mk (zNb (g := gb226) (o := .cells #[.int .i64 0, .int .i64 0, .int .i64 0, .int .i64 0] 37 (0, 0)) (by (with_reducible repeat (first | apply zNn | apply zNd | apply zNa)); exact BK226.out) hb); have n3_ := Aside0.mk (below_step (by repeat (first | (with_reducible first | exact HB.out | apply zBa | apply zBn | apply zBd | refine zBs ?_ GE224.out | refine zBs ?_ GE225.out | refine zBs ?_ GE226.out) | exact HB.out)) hb); clear BK224; clear BK225; clear BK226; clear HB; have BK224 := n0_; have BK225 := n1_; have BK226 := n2_; have HB := n3_; clear n0_ n1_ n2_ n3_; (try clear hb); (try clear hb2); (try clear hk); (try clear hi)))
   go_meet
   case rel => exact ⟨_, (true), (by first | rfl | (simp; done) | (simp [*]; done)), H', ⟨by first | omega | exact Nat.le_refl _⟩, ⟨by (with_reducible repeat (first | apply zNn | apply zNd | apply zNa)); exact BK224.out⟩, ⟨by (with_reducible repeat (first | apply zNn | apply zNd | apply zNa)); exact BK225.out⟩, ⟨by (with_reducible repeat (first | apply zNn | apply zNd | apply zNa)); exact BK226.out⟩, ⟨by repeat (first | (with_reducible first | exact HB.out | apply zBa | apply zBn | apply zBd | refine zBs ?_ GE224.out | refine zBs ?_ GE225.out | refine zBs ?_ GE226.out) | exact HB.out)⟩⟩
  subst c8
  have H1 : ((impl_QtyOk.f a1_0 a1_1 a1_2 a1_3).bind fun t228 => (if t228 = true then (if a0_2 = a1_2 then (impl_AddQty.j0 k (a0_3 != a1_3) a0_0 a0_1 a0_2 a0_3 a1_0 a1_1 a1_2 a1_3) else (impl_AddQty.j0 k true a0_0 a0_1 a0_2 a0_3 a1_0 a1_1 a1_2 a1_3)) else (impl_AddQty.j0 k true a0_0 a0_1 a0_2 a0_3 a1_0 a1_1 a1_2 a1_3))) = some (r1, r2, r3, r4, r5) := by rw [if_pos rfl] at H; exact H
  clear H
  have H := H1
  clear H1
  replace H := Option.bind_eq_some_iff.mp H
  obtain ⟨t228, A90, H⟩ := H
  replace H : (if t228 = true then (if a0_2 = a1_2 then (impl_AddQty.j0 k (a0_3 != a1_3) a0_0 a0_1 a0_2 a0_3 a1_0 a1_1 a1_2 a1_3) else (impl_AddQty.j0 k true a0_0 a0_1 a0_2 a0_3 a1_0 a1_1 a1_2 a1_3)) else (impl_AddQty.j0 k true a0_0 a0_1 a0_2 a0_3 a1_0 a1_1 a1_2 a1_3)) = some (r1, r2, r3, r4, r5) := H
  have A9 := Aside0.mk A90
  clear A90
  by_cases c10 : t228 = true
  case neg =>
   replace c10 := Bool.eq_false_iff.mpr c10
   subst c10
   have H1 : (impl_AddQty.j0 k true a0_0 a0_1 a0_2 a0_3 a1_0 a1_1 a1_2 a1_3) = some (r1, r2, r3, r4, r5) := by rw [if_neg (show ¬ (false = true) by decide)] at H; exact H
   clear H
   have H := H1
   clear H1
   have H' := Aside0.mk H
   clear H
   have hnb30 := NB224_225.out
   have hnc30 := NB225_224.out
   have hnb31 := NB224_226.out
   have hnc31 := NB226_224.out
   have hcz32_0 : w6.cell? ⟨gb224, 0, none⟩ = some (.int .i64 a0_0) := (blk_cell BK224.out 0).trans rfl
   have hcz32_1 : w6.cell? ⟨gb224, 1, none⟩ = some (.int .i64 a0_1) := (blk_cell BK224.out 1).trans rfl
   have hcz32_2 : w6.cell? ⟨gb224, 2, none⟩ = some (.int .i64 a0_2) := (blk_cell BK224.out 2).trans rfl
   have hcz32_3 : w6.cell? ⟨gb224, 3, none⟩ = some (.int .i64 a0_3) := (blk_cell BK224.out 3).trans rfl
   have hfz32_0 := blk_frozen BK224.out 0
   have hfz32_1 := blk_frozen BK224.out 1
   have hfz32_2 := blk_frozen BK224.out 2
   have hfz32_3 := blk_frozen BK224.out 3
   go_wp2_with (first | ((with_reducible refine gate_callee (f := 44) rfl ?_); refine goesL_ (some 7) rfl rfl Try.func44 (by kernel_rfl) rfl #[.agg #[.int .i64 a0_0, .int .i64 a0_1, .int .i64 a0_2, .int .i64 a0_3]] rfl (by (try simp only [List.map_toArray, List.map_cons, List.map_nil]); first | done | rfl | (simp only [List.length_drop, List.length_take]; rfl)) ?_; (with_reducible refine (impl_QtyOk.calls a0_0 a0_1 a0_2 a0_3 true _ A7.out).mono ?_); rintro e w33 ⟨rfl, hb⟩; refine ⟨_, rfl, ?_⟩; have n0_ := Aside0.mk (zNb (g := gb224) (o := .cells #[.int .i64 a0_0, .int .i64 a0_1, .int .i64 a0_2, .int .i64 a0_3] 37 (0, 0)) (by (with_reducible repeat (first | apply zNn | apply zNd | apply zNa)); exact BK224.out) hb); have n1_ := Aside0.mk (zNb (g := gb225) (o := .cells #[.int .i64 a1_0, .int .i64 a1_1, .int .i64 a1_2, .int .i64 a1_3] 37 (0, 0)) (by (with_reducible repeat (first | apply zNn | apply zNd | apply zNa)); exact BK225.out) hb); have n2_ := Aside0.mk (zNb (g := gb226) (o := .cells #[.int .i64 0, .int .i64 0, .int .i64 0, .int .i64 0] 37 (0, 0)) (by (with_reducible repeat (first | apply zNn | apply zNd | apply zNa)); exact BK226.out) hb); have n3_ := Aside0.mk (below_step (by repeat (first | (with_reducible first | exact HB.out | apply zBa | apply zBn | apply zBd | refine zBs ?_ GE224.out | refine zBs ?_ GE225.out | refine zBs ?_ GE226.out) | exact HB.out)) hb); clear BK224; clear BK225; clear BK226; clear HB; have BK224 := n0_; have BK225 := n1_; have BK226 := n2_; have HB := n3_; clear n0_ n1_ n2_ n3_; (try clear hb); (try clear hb2); (try clear hk); (try clear hi); have hnb34 := NB225_226.out; have hnc34 := NB226_225.out; have hcz35_0 : w33.cell? ⟨gb225, 0, none⟩ = some (.int .i64 a1_0) := (blk_cell BK225.out 0).trans rfl; have hcz35_1 : w33.cell? ⟨gb225, 1, none⟩ = some (.int .i64 a1_1) := (blk_cell BK225.out 1).trans rfl; have hcz35_2 : w33.cell? ⟨gb225, 2, none⟩ = some (.int .i64 a1_2) := (blk_cell BK225.out 2).trans rfl; have hcz35_3 : w33.cell? ⟨gb225, 3, none⟩ = some (.int .i64 a1_3) := (blk_cell BK225.out 3).trans rfl; have hfz35_0 := blk_frozen BK225.out 0; have hfz35_1 := blk_frozen BK225.out 1; have hfz35_2 := blk_frozen BK225.out 2; have hfz35_3 := blk_frozen BK225.out 3) | (go_at_call 44; (with_reducible refine (impl_QtyOk.calls a1_0 a1_1 a1_2 a1_3 false _ A9.out).mono ?_); rintro e w36 ⟨rfl, hb⟩; have n0_ := Aside0.mk (zNb (g := gb224) (o := .cells #[.int .i64 a0_0, .int .i64 a0_1, .int .i64 a0_2, .int .i64 a0_3] 37 (0, 0)) (by (with_reducible repeat (first | apply zNn | apply zNd | apply zNa)); exact BK224.out) hb); have n1_ := Aside0.mk (zNb (g := gb225) (o := .cells #[.int .i64 a1_0, .int .i64 a1_1, .int .i64 a1_2, .int .i64 a1_3] 37 (0, 0)) (by (with_reducible repeat (first | apply zNn | apply zNd | apply zNa)); exact BK225.out) hb); have n2_ := Aside0.mk (zNb (g := gb226) (o := .cells #[.int .i64 0, .int .i64 0, .int .i64 0, .int .i64 0] 37 (0, 0)) (by (with_reducible repeat (first | apply zNn | apply zNd | apply zNa)); exact BK226.out) hb); have n3_ := Aside0.mk (below_step (by repeat (first | (with_reducible first | exact HB.out | apply zBa | apply zBn | apply zBd | refine zBs ?_ GE224.out | refine zBs ?_ GE225.out | refine zBs ?_ GE226.out) | exact HB.out)) hb); clear BK224; clear BK225; clear BK226; clear HB; have BK224 := n0_; have BK225 := n1_; have BK226 := n2_; have HB := n3_; clear n0_ n1_ n2_ n3_; (try clear hb); (try clear hb2); (try clear hk); (try clear hi)))
   go_meet
   case rel => exact ⟨_, (true), (by first | rfl | (simp; done) | (simp [*]; done)), H', ⟨by first | omega | exact Nat.le_refl _⟩, ⟨by (with_reducible repeat (first | apply zNn | apply zNd | apply zNa)); exact BK224.out⟩, ⟨by (with_reducible repeat (first | apply zNn | apply zNd | apply zNa)); exact BK225.out⟩, ⟨by (with_reducible repeat (first | apply zNn | apply zNd | apply zNa)); exact BK226.out⟩, ⟨by repeat (first | (with_reducible first | exact HB.out | apply zBa | apply zBn | apply zBd | refine zBs ?_ GE224.out | refine zBs ?_ GE225.out | refine zBs ?_ GE226.out) | exact HB.out)⟩⟩
  subst c10
  have H1 : (if a0_2 = a1_2 then (impl_AddQty.j0 k (a0_3 != a1_3) a0_0 a0_1 a0_2 a0_3 a1_0 a1_1 a1_2 a1_3) else (impl_AddQty.j0 k true a0_0 a0_1 a0_2 a0_3 a1_0 a1_1 a1_2 a1_3)) = some (r1, r2, r3, r4, r5) := by rw [if_pos rfl] at H; exact H
  clear H
  have H := H1
  clear H1
  by_cases c11 : a0_2 = a1_2
  case neg =>
   rw [if_neg c11] at H
   have c11b0 : (a0_2 == a1_2) = false := beq_eq_false_iff_ne.mpr c11
   have c11b1 : (a0_2 != a1_2) = true := bne_iff_ne.mpr c11
   (first | rw [c11b0] | (simp only [i64_w, i32_w]; rw [c11b0]) | skip)
   have H' := Aside0.mk H
   clear H
   have hnb21 := NB224_225.out
   have hnc21 := NB225_224.out
   have hnb22 := NB224_226.out
   have hnc22 := NB226_224.out
   have hcz23_0 : w6.cell? ⟨gb224, 0, none⟩ = some (.int .i64 a0_0) := (blk_cell BK224.out 0).trans rfl
   have hcz23_1 : w6.cell? ⟨gb224, 1, none⟩ = some (.int .i64 a0_1) := (blk_cell BK224.out 1).trans rfl
   have hcz23_2 : w6.cell? ⟨gb224, 2, none⟩ = some (.int .i64 a0_2) := (blk_cell BK224.out 2).trans rfl
   have hcz23_3 : w6.cell? ⟨gb224, 3, none⟩ = some (.int .i64 a0_3) := (blk_cell BK224.out 3).trans rfl
   have hfz23_0 := blk_frozen BK224.out 0
   have hfz23_1 := blk_frozen BK224.out 1
   have hfz23_2 := blk_frozen BK224.out 2
   have hfz23_3 := blk_frozen BK224.out 3
   go_wp2_with (first | ((with_reducible refine gate_callee (f := 44) rfl ?_); refine goesL_ (some 7) rfl rfl Try.func44 (by kernel_rfl) rfl #[.agg #[.int .i64 a0_0, .int .i64 a0_1, .int .i64 a0_2, .int .i64 a0_3]] rfl (by (try simp only [List.map_toArray, List.map_cons, List.map_nil]); first | done | rfl | (simp only [List.length_drop, List.length_take]; rfl)) ?_; (with_reducible refine (impl_QtyOk.calls a0_0 a0_1 a0_2 a0_3 true _ A7.out).mono ?_); rintro e w24 ⟨rfl, hb⟩; refine ⟨_, rfl, ?_⟩; have n0_ := Aside0.mk (zNb (g := gb224) (o := .cells #[.int .i64 a0_0, .int .i64 a0_1, .int .i64 a0_2, .int .i64 a0_3] 37 (0, 0)) (by (with_reducible repeat (first | apply zNn | apply zNd | apply zNa)); exact BK224.out) hb); have n1_ := Aside0.mk (zNb (g := gb225) (o := .cells #[.int .i64 a1_0, .int .i64 a1_1, .int .i64 a1_2, .int .i64 a1_3] 37 (0, 0)) (by (with_reducible repeat (first | apply zNn | apply zNd | apply zNa)); exact BK225.out) hb); have n2_ := Aside0.mk (zNb (g := gb226) (o := .cells #[.int .i64 0, .int .i64 0, .int .i64 0, .int .i64 0] 37 (0, 0)) (by (with_reducible repeat (first | apply zNn | apply zNd | apply zNa)); exact BK226.out) hb); have n3_ := Aside0.mk (below_step (by repeat (first | (with_reducible first | exact HB.out | apply zBa | apply zBn | apply zBd | refine zBs ?_ GE224.out | refine zBs ?_ GE225.out | refine zBs ?_ GE226.out) | exact HB.out)) hb); clear BK224; clear BK225; clear BK226; clear HB; have BK224 := n0_; have BK225 := n1_; have BK226 := n2_; have HB := n3_; clear n0_ n1_ n2_ n3_; (try clear hb); (try clear hb2); (try clear hk); (try clear hi); have hnb25 := NB225_226.out; have hnc25 := NB226_225.out; have hcz26_0 : w24.cell? ⟨gb225, 0, none⟩ = some (.int .i64 a1_0) := (blk_cell BK225.out 0).trans rfl; have hcz26_1 : w24.cell? ⟨gb225, 1, none⟩ = some (.int .i64 a1_1) := (blk_cell BK225.out 1).trans rfl; have hcz26_2 : w24.cell? ⟨gb225, 2, none⟩ = some (.int .i64 a1_2) := (blk_cell BK225.out 2).trans rfl; have hcz26_3 : w24.cell? ⟨gb225, 3, none⟩ = some (.int .i64 a1_3) := (blk_cell BK225.out 3).trans rfl; have hfz26_0 := blk_frozen BK225.out 0; have hfz26_1 := blk_frozen BK225.out 1; have hfz26_2 := blk_frozen BK225.out 2; have hfz26_3 := blk_frozen BK225.out 3) | (go_at_call 44; (with_reducible refine (impl_QtyOk.calls a1_0 a1_1 a1_2 a1_3 true _ A9.out).mono ?_); rintro e w27 ⟨rfl, hb⟩; have n0_ := Aside0.mk (zNb (g := gb224) (o := .cells #[.int .i64 a0_0, .int .i64 a0_1, .int .i64 a0_2, .int .i64 a0_3] 37 (0, 0)) (by (with_reducible repeat (first | apply zNn | apply zNd | apply zNa)); exact BK224.out) hb); have n1_ := Aside0.mk (zNb (g := gb225) (o := .cells #[.int .i64 a1_0, .int .i64 a1_1, .int .i64 a1_2, .int .i64 a1_3] 37 (0, 0)) (by (with_reducible repeat (first | apply zNn | apply zNd | apply zNa)); exact BK225.out) hb); have n2_ := Aside0.mk (zNb (g := gb226) (o := .cells #[.int .i64 0, .int .i64 0, .int .i64 0, .int .i64 0] 37 (0, 0)) (by (with_reducible repeat (first | apply zNn | apply zNd | apply zNa)); exact BK226.out) hb); have n3_ := Aside0.mk (below_step (by repeat (first | (with_reducible first | exact HB.out | apply zBa | apply zBn | apply zBd | refine zBs ?_ GE224.out | refine zBs ?_ GE225.out | refine zBs ?_ GE226.out) | exact HB.out)) hb); clear BK224; clear BK225; clear BK226; clear HB; have BK224 := n0_; have BK225 := n1_; have BK226 := n2_; have HB := n3_; clear n0_ n1_ n2_ n3_; (try clear hb); (try clear hb2); (try clear hk); (try clear hi); have hcz28_0 : w27.cell? ⟨gb224, 0, none⟩ = some (.int .i64 a0_0) := (blk_cell BK224.out 0).trans rfl; have hcz28_1 : w27.cell? ⟨gb224, 1, none⟩ = some (.int .i64 a0_1) := (blk_cell BK224.out 1).trans rfl; have hcz28_2 : w27.cell? ⟨gb224, 2, none⟩ = some (.int .i64 a0_2) := (blk_cell BK224.out 2).trans rfl; have hcz28_3 : w27.cell? ⟨gb224, 3, none⟩ = some (.int .i64 a0_3) := (blk_cell BK224.out 3).trans rfl; have hfz28_0 := blk_frozen BK224.out 0; have hfz28_1 := blk_frozen BK224.out 1; have hfz28_2 := blk_frozen BK224.out 2; have hfz28_3 := blk_frozen BK224.out 3; have hcz29_0 : w27.cell? ⟨gb225, 0, none⟩ = some (.int .i64 a1_0) := (blk_cell BK225.out 0).trans rfl; have hcz29_1 : w27.cell? ⟨gb225, 1, none⟩ = some (.int .i64 a1_1) := (blk_cell BK225.out 1).trans rfl; have hcz29_2 : w27.cell? ⟨gb225, 2, none⟩ = some (.int .i64 a1_2) := (blk_cell BK225.out 2).trans rfl; have hcz29_3 : w27.cell? ⟨gb225, 3, none⟩ = some (.int .i64 a1_3) := (blk_cell BK225.out 3).trans rfl; have hfz29_0 := blk_frozen BK225.out 0; have hfz29_1 := blk_frozen BK225.out 1; have hfz29_2 := blk_frozen BK225.out 2; have hfz29_3 := blk_frozen BK225.out 3))
   go_meet
   case rel => exact ⟨_, (true), (by first | rfl | (simp; done) | (simp [*]; done)), H', ⟨by first | omega | exact Nat.le_refl _⟩, ⟨by (with_reducible repeat (first | apply zNn | apply zNd | apply zNa)); exact BK224.out⟩, ⟨by (with_reducible repeat (first | apply zNn | apply zNd | apply zNa)); exact BK225.out⟩, ⟨by (with_reducible repeat (first | apply zNn | apply zNd | apply zNa)); exact BK226.out⟩, ⟨by repeat (first | (with_reducible first | exact HB.out | apply zBa | apply zBn | apply zBd | refine zBs ?_ GE224.out | refine zBs ?_ GE225.out | refine zBs ?_ GE226.out) | exact HB.out)⟩⟩
  rw [if_pos c11] at H
  have c11b0 : (a0_2 == a1_2) = true := beq_iff_eq.mpr c11
  have c11b1 : (a0_2 != a1_2) = false := bne_eq_false_iff_eq.mpr c11
  clear c11
  (first | rw [c11b0] | (simp only [i64_w, i32_w]; rw [c11b0]) | skip)
  have H' := Aside0.mk H
  clear H
  have hnb12 := NB224_225.out
  have hnc12 := NB225_224.out
  have hnb13 := NB224_226.out
  have hnc13 := NB226_224.out
  have hcz14_0 : w6.cell? ⟨gb224, 0, none⟩ = some (.int .i64 a0_0) := (blk_cell BK224.out 0).trans rfl
  have hcz14_1 : w6.cell? ⟨gb224, 1, none⟩ = some (.int .i64 a0_1) := (blk_cell BK224.out 1).trans rfl
  have hcz14_2 : w6.cell? ⟨gb224, 2, none⟩ = some (.int .i64 a0_2) := (blk_cell BK224.out 2).trans rfl
  have hcz14_3 : w6.cell? ⟨gb224, 3, none⟩ = some (.int .i64 a0_3) := (blk_cell BK224.out 3).trans rfl
  have hfz14_0 := blk_frozen BK224.out 0
  have hfz14_1 := blk_frozen BK224.out 1
  have hfz14_2 := blk_frozen BK224.out 2
  have hfz14_3 := blk_frozen BK224.out 3
  go_wp2_with (first | ((with_reducible refine gate_callee (f := 44) rfl ?_); refine goesL_ (some 7) rfl rfl Try.func44 (by kernel_rfl) rfl #[.agg #[.int .i64 a0_0, .int .i64 a0_1, .int .i64 a0_2, .int .i64 a0_3]] rfl (by (try simp only [List.map_toArray, List.map_cons, List.map_nil]); first | done | rfl | (simp only [List.length_drop, List.length_take]; rfl)) ?_; (with_reducible refine (impl_QtyOk.calls a0_0 a0_1 a0_2 a0_3 true _ A7.out).mono ?_); rintro e w15 ⟨rfl, hb⟩; refine ⟨_, rfl, ?_⟩; have n0_ := Aside0.mk (zNb (g := gb224) (o := .cells #[.int .i64 a0_0, .int .i64 a0_1, .int .i64 a0_2, .int .i64 a0_3] 37 (0, 0)) (by (with_reducible repeat (first | apply zNn | apply zNd | apply zNa)); exact BK224.out) hb); have n1_ := Aside0.mk (zNb (g := gb225) (o := .cells #[.int .i64 a1_0, .int .i64 a1_1, .int .i64 a1_2, .int .i64 a1_3] 37 (0, 0)) (by (with_reducible repeat (first | apply zNn | apply zNd | apply zNa)); exact BK225.out) hb); have n2_ := Aside0.mk (zNb (g := gb226) (o := .cells #[.int .i64 0, .int .i64 0, .int .i64 0, .int .i64 0] 37 (0, 0)) (by (with_reducible repeat (first | apply zNn | apply zNd | apply zNa)); exact BK226.out) hb); have n3_ := Aside0.mk (below_step (by repeat (first | (with_reducible first | exact HB.out | apply zBa | apply zBn | apply zBd | refine zBs ?_ GE224.out | refine zBs ?_ GE225.out | refine zBs ?_ GE226.out) | exact HB.out)) hb); clear BK224; clear BK225; clear BK226; clear HB; have BK224 := n0_; have BK225 := n1_; have BK226 := n2_; have HB := n3_; clear n0_ n1_ n2_ n3_; (try clear hb); (try clear hb2); (try clear hk); (try clear hi); have hnb16 := NB225_226.out; have hnc16 := NB226_225.out; have hcz17_0 : w15.cell? ⟨gb225, 0, none⟩ = some (.int .i64 a1_0) := (blk_cell BK225.out 0).trans rfl; have hcz17_1 : w15.cell? ⟨gb225, 1, none⟩ = some (.int .i64 a1_1) := (blk_cell BK225.out 1).trans rfl; have hcz17_2 : w15.cell? ⟨gb225, 2, none⟩ = some (.int .i64 a1_2) := (blk_cell BK225.out 2).trans rfl; have hcz17_3 : w15.cell? ⟨gb225, 3, none⟩ = some (.int .i64 a1_3) := (blk_cell BK225.out 3).trans rfl; have hfz17_0 := blk_frozen BK225.out 0; have hfz17_1 := blk_frozen BK225.out 1; have hfz17_2 := blk_frozen BK225.out 2; have hfz17_3 := blk_frozen BK225.out 3) | (go_at_call 44; (with_reducible refine (impl_QtyOk.calls a1_0 a1_1 a1_2 a1_3 true _ A9.out).mono ?_); rintro e w18 ⟨rfl, hb⟩; have n0_ := Aside0.mk (zNb (g := gb224) (o := .cells #[.int .i64 a0_0, .int .i64 a0_1, .int .i64 a0_2, .int .i64 a0_3] 37 (0, 0)) (by (with_reducible repeat (first | apply zNn | apply zNd | apply zNa)); exact BK224.out) hb); have n1_ := Aside0.mk (zNb (g := gb225) (o := .cells #[.int .i64 a1_0, .int .i64 a1_1, .int .i64 a1_2, .int .i64 a1_3] 37 (0, 0)) (by (with_reducible repeat (first | apply zNn | apply zNd | apply zNa)); exact BK225.out) hb); have n2_ := Aside0.mk (zNb (g := gb226) (o := .cells #[.int .i64 0, .int .i64 0, .int .i64 0, .int .i64 0] 37 (0, 0)) (by (with_reducible repeat (first | apply zNn | apply zNd | apply zNa)); exact BK226.out) hb); have n3_ := Aside0.mk (below_step (by repeat (first | (with_reducible first | exact HB.out | apply zBa | apply zBn | apply zBd | refine zBs ?_ GE224.out | refine zBs ?_ GE225.out | refine zBs ?_ GE226.out) | exact HB.out)) hb); clear BK224; clear BK225; clear BK226; clear HB; have BK224 := n0_; have BK225 := n1_; have BK226 := n2_; have HB := n3_; clear n0_ n1_ n2_ n3_; (try clear hb); (try clear hb2); (try clear hk); (try clear hi); have hcz19_0 : w18.cell? ⟨gb224, 0, none⟩ = some (.int .i64 a0_0) := (blk_cell BK224.out 0).trans rfl; have hcz19_1 : w18.cell? ⟨gb224, 1, none⟩ = some (.int .i64 a0_1) := (blk_cell BK224.out 1).trans rfl; have hcz19_2 : w18.cell? ⟨gb224, 2, none⟩ = some (.int .i64 a0_2) := (blk_cell BK224.out 2).trans rfl; have hcz19_3 : w18.cell? ⟨gb224, 3, none⟩ = some (.int .i64 a0_3) := (blk_cell BK224.out 3).trans rfl; have hfz19_0 := blk_frozen BK224.out 0; have hfz19_1 := blk_frozen BK224.out 1; have hfz19_2 := blk_frozen BK224.out 2; have hfz19_3 := blk_frozen BK224.out 3; have hcz20_0 : w18.cell? ⟨gb225, 0, none⟩ = some (.int .i64 a1_0) := (blk_cell BK225.out 0).trans rfl; have hcz20_1 : w18.cell? ⟨gb225, 1, none⟩ = some (.int .i64 a1_1) := (blk_cell BK225.out 1).trans rfl; have hcz20_2 : w18.cell? ⟨gb225, 2, none⟩ = some (.int .i64 a1_2) := (blk_cell BK225.out 2).trans rfl; have hcz20_3 : w18.cell? ⟨gb225, 3, none⟩ = some (.int .i64 a1_3) := (blk_cell BK225.out 3).trans rfl; have hfz20_0 := blk_frozen BK225.out 0; have hfz20_1 := blk_frozen BK225.out 1; have hfz20_2 := blk_frozen BK225.out 2; have hfz20_3 := blk_frozen BK225.out 3))
  go_meet
  case rel => exact ⟨_, ((a0_3 != a1_3)), (by first | rfl | (simp; done) | (simp [*]; done)), H', ⟨by first | omega | exact Nat.le_refl _⟩, ⟨by (with_reducible repeat (first | apply zNn | apply zNd | apply zNa)); exact BK224.out⟩, ⟨by (with_reducible repeat (first | apply zNn | apply zNd | apply zNa)); exact BK225.out⟩, ⟨by (with_reducible repeat (first | apply zNn | apply zNd | apply zNa)); exact BK226.out⟩, ⟨by repeat (first | (with_reducible first | exact HB.out | apply zBa | apply zBn | apply zBd | refine zBs ?_ GE224.out | refine zBs ?_ GE225.out | refine zBs ?_ GE226.out) | exact HB.out)⟩⟩
 case rest =>
  clear HC3
  try clear c1
  try clear c2
  try clear p2
  try clear c3
  try clear c4
  try clear c8
  try clear c10
  try clear c11
  try clear c11b0
  try clear c11b1
  try clear c12
  try clear c13
  try clear c16
  try clear c20
  try clear c21
  try clear c22
  try clear c25
  try clear c30
  try clear c31
  try clear c34
  try clear c37
  try clear c38
  try clear hcz14_0
  try clear hcz14_1
  try clear hcz14_2
  try clear hcz14_3
  try clear hcz17_0
  try clear hcz17_1
  try clear hcz17_2
  try clear hcz17_3
  try clear hcz19_0
  try clear hcz19_1
  try clear hcz19_2
  try clear hcz19_3
  try clear hcz20_0
  try clear hcz20_1
  try clear hcz20_2
  try clear hcz20_3
  try clear hcz23_0
  try clear hcz23_1
  try clear hcz23_2
  try clear hcz23_3
  try clear hcz26_0
  try clear hcz26_1
  try clear hcz26_2
  try clear hcz26_3
  try clear hcz28_0
  try clear hcz28_1
  try clear hcz28_2
  try clear hcz28_3
  try clear hcz29_0
  try clear hcz29_1
  try clear hcz29_2
  try clear hcz29_3
  try clear hcz32_0
  try clear hcz32_1
  try clear hcz32_2
  try clear hcz32_3
  try clear hcz35_0
  try clear hcz35_1
  try clear hcz35_2
  try clear hcz35_3
  try clear hcz39_0
  try clear hcz39_1
  try clear hcz39_2
  try clear hcz39_3
  try clear hfz14_0
  try clear hfz14_1
  try clear hfz14_2
  try clear hfz14_3
  try clear hfz17_0
  try clear hfz17_1
  try clear hfz17_2
  try clear hfz17_3
  try clear hfz19_0
  try clear hfz19_1
  try clear hfz19_2
  try clear hfz19_3
  try clear hfz20_0
  try clear hfz20_1
  try clear hfz20_2
  try clear hfz20_3
  try clear hfz23_0
  try clear hfz23_1
  try clear hfz23_2
  try clear hfz23_3
  try clear hfz26_0
  try clear hfz26_1
  try clear hfz26_2
  try clear hfz26_3
  try clear hfz28_0
  try clear hfz28_1
  try clear hfz28_2
  try clear hfz28_3
  try clear hfz29_0
  try clear hfz29_1
  try clear hfz29_2
  try clear hfz29_3
  try clear hfz32_0
  try clear hfz32_1
  try clear hfz32_2
  try clear hfz32_3
  try clear hfz35_0
  try clear hfz35_1
  try clear hfz35_2
  try clear hfz35_3
  try clear hfz39_0
  try clear hfz39_1
  try clear hfz39_2
  try clear hfz39_3
  obtain ⟨kq, x27_2, rfl, HA, HJ2, BK224, BK225, BK226, HB⟩ := hcut
  cases kq with
  | zero => exact absurd HA.out (by simp [impl_AddQty.j0])
  | succ kj2 =>
   have H := HA.out
   clear HA
   simp only [impl_AddQty.j0] at H
   by_cases c41 : x27_2 = true
   case pos =>
    subst c41
    have H1 : (some (0, 0, 0, 0, false)) = some (r1, r2, r3, r4, r5) := by rw [if_pos rfl] at H; exact H
    clear H
    have H := H1
    clear H1
    simp only [Option.some.injEq, Prod.mk.injEq] at H
    obtain ⟨rfl, rfl, rfl, rfl, rfl⟩ := H
    have hnb42 := NB226_224.out
    have hnc42 := NB224_226.out
    have hnb43 := NB226_225.out
    have hnc43 := NB225_226.out
    have hcz44_0 : wc.cell? ⟨gb226, 0, none⟩ = some (.int .i64 0) := (blk_cell BK226.out 0).trans rfl
    have hcz44_1 : wc.cell? ⟨gb226, 1, none⟩ = some (.int .i64 0) := (blk_cell BK226.out 1).trans rfl
    have hcz44_2 : wc.cell? ⟨gb226, 2, none⟩ = some (.int .i64 0) := (blk_cell BK226.out 2).trans rfl
    have hcz44_3 : wc.cell? ⟨gb226, 3, none⟩ = some (.int .i64 0) := (blk_cell BK226.out 3).trans rfl
    have hfz44_0 := blk_frozen BK226.out 0
    have hfz44_1 := blk_frozen BK226.out 1
    have hfz44_2 := blk_frozen BK226.out 2
    have hfz44_3 := blk_frozen BK226.out 3
    go_wp2
    refine bodyPost_ret (results_ct rfl _ _ gb226 37 #[.int .i64 0, .int .i64 0, .int .i64 0, .int .i64 0] (0, 0) _ rfl (by (with_reducible repeat (first | apply zNn | apply zNd | apply zNa)); refine blk_put (cs := #[.int .i64 0, .int .i64 0, .int .i64 0, .int .i64 0]) ?_ 3 _ rfl; (with_reducible repeat (first | apply zNn | apply zNd | apply zNa)); refine blk_put (cs := #[.int .i64 0, .int .i64 0, .int .i64 0, .int .i64 0]) ?_ 2 _ rfl; (with_reducible repeat (first | apply zNn | apply zNd | apply zNa)); refine blk_put (cs := #[.int .i64 0, .int .i64 0, .int .i64 0, .int .i64 0]) ?_ 1 _ rfl; (with_reducible repeat (first | apply zNn | apply zNd | apply zNa)); refine blk_put (cs := #[.int .i64 0, .int .i64 0, .int .i64 0, .int .i64 0]) ?_ 0 _ rfl; (with_reducible repeat (first | apply zNn | apply zNd | apply zNa)); exact BK226.out) Try.underlying37 rfl (by kernel_rfl)) rfl ?_
    exact ⟨by first | rfl | (simp [errW_none, errW_some] <;> rfl) | (simp [*, errW_none, errW_some] <;> rfl), by repeat (first | (with_reducible first | exact HB.out | apply zBa | apply zBn | apply zBd | refine zBs ?_ GE224.out | refine zBs ?_ GE225.out | refine zBs ?_ GE226.out) | exact HB.out)⟩
   replace c41 := Bool.eq_false_iff.mpr c41
   subst c41
   have H1 : (if a0_0 = 0 then (some (a1_0, a1_1, a1_2, a1_3, true)) else (if a1_0 = 0 then (some (a0_0, a0_1, a0_2, a0_3, true)) else (if a0_1 > a1_1 then (impl_AddQty.j1 kj2 a1_0 a1_1 a1_2 a1_3 a0_0 a0_1 a0_2 a0_3) else (impl_AddQty.j1 kj2 a0_0 a0_1 a0_2 a0_3 a1_0 a1_1 a1_2 a1_3)))) = some (r1, r2, r3, r4, r5) := by rw [if_neg (show ¬ (false = true) by decide)] at H; exact H
   clear H
   have H := H1
   clear H1
   by_cases c45 : a0_0 = 0
   case pos =>
    rw [if_pos c45] at H
    have c45b0 : (a0_0 == 0) = true := beq_iff_eq.mpr c45
    have c45b1 : (a0_0 != 0) = false := bne_eq_false_iff_eq.mpr c45
    clear c45
    simp only [Option.some.injEq, Prod.mk.injEq] at H
    obtain ⟨rfl, rfl, rfl, rfl, rfl⟩ := H
    have hnb46 := NB224_225.out
    have hnc46 := NB225_224.out
    have hnb47 := NB224_226.out
    have hnc47 := NB226_224.out
    have hcz48_0 : wc.cell? ⟨gb224, 0, none⟩ = some (.int .i64 a0_0) := (blk_cell BK224.out 0).trans rfl
    have hcz48_1 : wc.cell? ⟨gb224, 1, none⟩ = some (.int .i64 a0_1) := (blk_cell BK224.out 1).trans rfl
    have hcz48_2 : wc.cell? ⟨gb224, 2, none⟩ = some (.int .i64 a0_2) := (blk_cell BK224.out 2).trans rfl
    have hcz48_3 : wc.cell? ⟨gb224, 3, none⟩ = some (.int .i64 a0_3) := (blk_cell BK224.out 3).trans rfl
    have hfz48_0 := blk_frozen BK224.out 0
    have hfz48_1 := blk_frozen BK224.out 1
    have hfz48_2 := blk_frozen BK224.out 2
    have hfz48_3 := blk_frozen BK224.out 3
    have hnb49 := NB225_226.out
    have hnc49 := NB226_225.out
    have hcz50_0 : wc.cell? ⟨gb225, 0, none⟩ = some (.int .i64 a1_0) := (blk_cell BK225.out 0).trans rfl
    have hcz50_1 : wc.cell? ⟨gb225, 1, none⟩ = some (.int .i64 a1_1) := (blk_cell BK225.out 1).trans rfl
    have hcz50_2 : wc.cell? ⟨gb225, 2, none⟩ = some (.int .i64 a1_2) := (blk_cell BK225.out 2).trans rfl
    have hcz50_3 : wc.cell? ⟨gb225, 3, none⟩ = some (.int .i64 a1_3) := (blk_cell BK225.out 3).trans rfl
    have hfz50_0 := blk_frozen BK225.out 0
    have hfz50_1 := blk_frozen BK225.out 1
    have hfz50_2 := blk_frozen BK225.out 2
    have hfz50_3 := blk_frozen BK225.out 3
    have hcz51_0 : wc.cell? ⟨gb226, 0, none⟩ = some (.int .i64 0) := (blk_cell BK226.out 0).trans rfl
    have hcz51_1 : wc.cell? ⟨gb226, 1, none⟩ = some (.int .i64 0) := (blk_cell BK226.out 1).trans rfl
    have hcz51_2 : wc.cell? ⟨gb226, 2, none⟩ = some (.int .i64 0) := (blk_cell BK226.out 2).trans rfl
    have hcz51_3 : wc.cell? ⟨gb226, 3, none⟩ = some (.int .i64 0) := (blk_cell BK226.out 3).trans rfl
    have hfz51_0 := blk_frozen BK226.out 0
    have hfz51_1 := blk_frozen BK226.out 1
    have hfz51_2 := blk_frozen BK226.out 2
    have hfz51_3 := blk_frozen BK226.out 3
    go_wp2
    refine bodyPost_ret (results_ct rfl _ _ gb226 37 #[.int .i64 a1_0, .int .i64 a1_1, .int .i64 a1_2, .int .i64 a1_3] (0, 0) _ rfl (by (with_reducible repeat (first | apply zNn | apply zNd | apply zNa)); refine blk_put (cs := #[.int .i64 a1_0, .int .i64 a1_1, .int .i64 a1_2, .int .i64 0]) ?_ 3 _ rfl; (with_reducible repeat (first | apply zNn | apply zNd | apply zNa)); refine blk_put (cs := #[.int .i64 a1_0, .int .i64 a1_1, .int .i64 0, .int .i64 0]) ?_ 2 _ rfl; (with_reducible repeat (first | apply zNn | apply zNd | apply zNa)); refine blk_put (cs := #[.int .i64 a1_0, .int .i64 0, .int .i64 0, .int .i64 0]) ?_ 1 _ rfl; (with_reducible repeat (first | apply zNn | apply zNd | apply zNa)); refine blk_put (cs := #[.int .i64 0, .int .i64 0, .int .i64 0, .int .i64 0]) ?_ 0 _ rfl; (with_reducible repeat (first | apply zNn | apply zNd | apply zNa)); exact BK226.out) Try.underlying37 rfl (by kernel_rfl)) rfl ?_
    exact ⟨by first | rfl | (simp [errW_none, errW_some] <;> rfl) | (simp [*, errW_none, errW_some] <;> rfl), by repeat (first | (with_reducible first | exact HB.out | apply zBa | apply zBn | apply zBd | refine zBs ?_ GE224.out | refine zBs ?_ GE225.out | refine zBs ?_ GE226.out) | exact HB.out)⟩
   rw [if_neg c45] at H
   have c45b0 : (a0_0 == 0) = false := beq_eq_false_iff_ne.mpr c45
   have c45b1 : (a0_0 != 0) = true := bne_iff_ne.mpr c45
   by_cases c52 : a1_0 = 0
   case pos =>
    rw [if_pos c52] at H
    have c52b0 : (a1_0 == 0) = true := beq_iff_eq.mpr c52
    have c52b1 : (a1_0 != 0) = false := bne_eq_false_iff_eq.mpr c52
    clear c52
    simp only [Option.some.injEq, Prod.mk.injEq] at H
    obtain ⟨rfl, rfl, rfl, rfl, rfl⟩ := H
    have hnb53 := NB224_225.out
    have hnc53 := NB225_224.out
    have hnb54 := NB224_226.out
    have hnc54 := NB226_224.out
    have hcz55_0 : wc.cell? ⟨gb224, 0, none⟩ = some (.int .i64 a0_0) := (blk_cell BK224.out 0).trans rfl
    have hcz55_1 : wc.cell? ⟨gb224, 1, none⟩ = some (.int .i64 a0_1) := (blk_cell BK224.out 1).trans rfl
    have hcz55_2 : wc.cell? ⟨gb224, 2, none⟩ = some (.int .i64 a0_2) := (blk_cell BK224.out 2).trans rfl
    have hcz55_3 : wc.cell? ⟨gb224, 3, none⟩ = some (.int .i64 a0_3) := (blk_cell BK224.out 3).trans rfl
    have hfz55_0 := blk_frozen BK224.out 0
    have hfz55_1 := blk_frozen BK224.out 1
    have hfz55_2 := blk_frozen BK224.out 2
    have hfz55_3 := blk_frozen BK224.out 3
    have hnb56 := NB225_226.out
    have hnc56 := NB226_225.out
    have hcz57_0 : wc.cell? ⟨gb225, 0, none⟩ = some (.int .i64 a1_0) := (blk_cell BK225.out 0).trans rfl
    have hcz57_1 : wc.cell? ⟨gb225, 1, none⟩ = some (.int .i64 a1_1) := (blk_cell BK225.out 1).trans rfl
    have hcz57_2 : wc.cell? ⟨gb225, 2, none⟩ = some (.int .i64 a1_2) := (blk_cell BK225.out 2).trans rfl
    have hcz57_3 : wc.cell? ⟨gb225, 3, none⟩ = some (.int .i64 a1_3) := (blk_cell BK225.out 3).trans rfl
    have hfz57_0 := blk_frozen BK225.out 0
    have hfz57_1 := blk_frozen BK225.out 1
    have hfz57_2 := blk_frozen BK225.out 2
    have hfz57_3 := blk_frozen BK225.out 3
    have hcz58_0 : wc.cell? ⟨gb226, 0, none⟩ = some (.int .i64 0) := (blk_cell BK226.out 0).trans rfl
    have hcz58_1 : wc.cell? ⟨gb226, 1, none⟩ = some (.int .i64 0) := (blk_cell BK226.out 1).trans rfl
    have hcz58_2 : wc.cell? ⟨gb226, 2, none⟩ = some (.int .i64 0) := (blk_cell BK226.out 2).trans rfl
    have hcz58_3 : wc.cell? ⟨gb226, 3, none⟩ = some (.int .i64 0) := (blk_cell BK226.out 3).trans rfl
    have hfz58_0 := blk_frozen BK226.out 0
    have hfz58_1 := blk_frozen BK226.out 1
    have hfz58_2 := blk_frozen BK226.out 2
    have hfz58_3 := blk_frozen BK226.out 3
    go_wp2
    refine bodyPost_ret (results_ct rfl _ _ gb226 37 #[.int .i64 a0_0, .int .i64 a0_1, .int .i64 a0_2, .int .i64 a0_3] (0, 0) _ rfl (by (with_reducible repeat (first | apply zNn | apply zNd | apply zNa)); refine blk_put (cs := #[.int .i64 a0_0, .int .i64 a0_1, .int .i64 a0_2, .int .i64 0]) ?_ 3 _ rfl; (with_reducible repeat (first | apply zNn | apply zNd | apply zNa)); refine blk_put (cs := #[.int .i64 a0_0, .int .i64 a0_1, .int .i64 0, .int .i64 0]) ?_ 2 _ rfl; (with_reducible repeat (first | apply zNn | apply zNd | apply zNa)); refine blk_put (cs := #[.int .i64 a0_0, .int .i64 0, .int .i64 0, .int .i64 0]) ?_ 1 _ rfl; (with_reducible repeat (first | apply zNn | apply zNd | apply zNa)); refine blk_put (cs := #[.int .i64 0, .int .i64 0, .int .i64 0, .int .i64 0]) ?_ 0 _ rfl; (with_reducible repeat (first | apply zNn | apply zNd | apply zNa)); exact BK226.out) Try.underlying37 rfl (by kernel_rfl)) rfl ?_
    exact ⟨by first | rfl | (simp [errW_none, errW_some] <;> rfl) | (simp [*, errW_none, errW_some] <;> rfl), by repeat (first | (with_reducible first | exact HB.out | apply zBa | apply zBn | apply zBd | refine zBs ?_ GE224.out | refine zBs ?_ GE225.out | refine zBs ?_ GE226.out) | exact HB.out)⟩
   rw [if_neg c52] at H
   have c52b0 : (a1_0 == 0) = false := beq_eq_false_iff_ne.mpr c52
   have c52b1 : (a1_0 != 0) = true := bne_iff_ne.mpr c52
   have HC59 := Aside0.mk H
   clear H
   have hnb60 := NB224_225.out
   have hnc60 := NB225_224.out
   have hnb61 := NB224_226.out
   have hnc61 := NB226_224.out
   have hcz62_0 : wc.cell? ⟨gb224, 0, none⟩ = some (.int .i64 a0_0) := (blk_cell BK224.out 0).trans rfl
   have hcz62_1 : wc.cell? ⟨gb224, 1, none⟩ = some (.int .i64 a0_1) := (blk_cell BK224.out 1).trans rfl
   have hcz62_2 : wc.cell? ⟨gb224, 2, none⟩ = some (.int .i64 a0_2) := (blk_cell BK224.out 2).trans rfl
   have hcz62_3 : wc.cell? ⟨gb224, 3, none⟩ = some (.int .i64 a0_3) := (blk_cell BK224.out 3).trans rfl
   have hfz62_0 := blk_frozen BK224.out 0
   have hfz62_1 := blk_frozen BK224.out 1
   have hfz62_2 := blk_frozen BK224.out 2
   have hfz62_3 := blk_frozen BK224.out 3
   have hnb63 := NB225_226.out
   have hnc63 := NB226_225.out
   have hcz64_0 : wc.cell? ⟨gb225, 0, none⟩ = some (.int .i64 a1_0) := (blk_cell BK225.out 0).trans rfl
   have hcz64_1 : wc.cell? ⟨gb225, 1, none⟩ = some (.int .i64 a1_1) := (blk_cell BK225.out 1).trans rfl
   have hcz64_2 : wc.cell? ⟨gb225, 2, none⟩ = some (.int .i64 a1_2) := (blk_cell BK225.out 2).trans rfl
   have hcz64_3 : wc.cell? ⟨gb225, 3, none⟩ = some (.int .i64 a1_3) := (blk_cell BK225.out 3).trans rfl
   have hfz64_0 := blk_frozen BK225.out 0
   have hfz64_1 := blk_frozen BK225.out 1
   have hfz64_2 := blk_frozen BK225.out 2
   have hfz64_3 := blk_frozen BK225.out 3
   go_upto_if 43 with (fail)
   go_cut [] (fun wc => ∃ (kq : Nat) (x225000_58 : Int) (x225001_58 : Int) (x225002_58 : Int) (x225003_58 : Int) (x226000_58 : Int) (x226001_58 : Int) (x226002_58 : Int) (x226003_58 : Int), Aside0 (impl_AddQty.j1 kq x225000_58 x225001_58 x225002_58 x225003_58 x226000_58 x226001_58 x226002_58 x226003_58 = some (r1, r2, r3, r4, r5)) ∧ Aside0 (kq ≤ kj2) ∧ Aside0 (wc.heap[gb224]? = some (.cells #[.int .i64 x225000_58, .int .i64 x225001_58, .int .i64 x225002_58, .int .i64 x225003_58] 37 (0, 0))) ∧ Aside0 (wc.heap[gb225]? = some (.cells #[.int .i64 x226000_58, .int .i64 x226001_58, .int .i64 x226002_58, .int .i64 x226003_58] 37 (0, 0))) ∧ Aside0 (wc.heap[gb226]? = some (.cells #[.int .i64 0, .int .i64 0, .int .i64 0, .int .i64 0] 37 (0, 0))) ∧ Aside0 (Below w.heap.size w wc))
   case first =>
    have H := HC59.out
    clear HC59
    by_cases c65 : a0_1 > a1_1
    case neg =>
     rw [if_neg c65] at H
     have c65b0 : decide (a1_1 < a0_1) = false := decide_eq_false c65
     clear c65
     (first | rw [c65b0] | (simp only [i64_w, i32_w]; rw [c65b0]) | skip)
     have H' := Aside0.mk H
     clear H
     go_wp2
     go_meet
     case rel => exact ⟨_, (a0_0), (a0_1), (a0_2), (a0_3), (a1_0), (a1_1), (a1_2), (a1_3), H', ⟨by have := HJ2.out; first | omega | exact Nat.le_refl _⟩, ⟨by (with_reducible repeat (first | apply zNn | apply zNd | apply zNa)); exact BK224.out⟩, ⟨by (with_reducible repeat (first | apply zNn | apply zNd | apply zNa)); exact BK225.out⟩, ⟨by (with_reducible repeat (first | apply zNn | apply zNd | apply zNa)); exact BK226.out⟩, ⟨by repeat (first | (with_reducible first | exact HB.out | apply zBa | apply zBn | apply zBd | refine zBs ?_ GE224.out | refine zBs ?_ GE225.out | refine zBs ?_ GE226.out) | exact HB.out)⟩⟩
    rw [if_pos c65] at H
    have c65b0 : decide (a1_1 < a0_1) = true := zE c65
    clear c65
    (first | rw [c65b0] | (simp only [i64_w, i32_w]; rw [c65b0]) | skip)
    have H' := Aside0.mk H
    clear H
    have hnb66 := NB225_224.out
    have hnc66 := NB224_225.out
    have hnb67 := NB225_226.out
    have hnc67 := NB226_225.out
    have hcz68_0 : wc.cell? ⟨gb225, 0, none⟩ = some (.int .i64 a1_0) := (blk_cell BK225.out 0).trans rfl
    have hcz68_1 : wc.cell? ⟨gb225, 1, none⟩ = some (.int .i64 a1_1) := (blk_cell BK225.out 1).trans rfl
    have hcz68_2 : wc.cell? ⟨gb225, 2, none⟩ = some (.int .i64 a1_2) := (blk_cell BK225.out 2).trans rfl
    have hcz68_3 : wc.cell? ⟨gb225, 3, none⟩ = some (.int .i64 a1_3) := (blk_cell BK225.out 3).trans rfl
    have hfz68_0 := blk_frozen BK225.out 0
    have hfz68_1 := blk_frozen BK225.out 1
    have hfz68_2 := blk_frozen BK225.out 2
    have hfz68_3 := blk_frozen BK225.out 3
    have hnb69 := NB224_226.out
    have hnc69 := NB226_224.out
    have hcz70_0 : wc.cell? ⟨gb224, 0, none⟩ = some (.int .i64 a0_0) := (blk_cell BK224.out 0).trans rfl
    have hcz70_1 : wc.cell? ⟨gb224, 1, none⟩ = some (.int .i64 a0_1) := (blk_cell BK224.out 1).trans rfl
    have hcz70_2 : wc.cell? ⟨gb224, 2, none⟩ = some (.int .i64 a0_2) := (blk_cell BK224.out 2).trans rfl
    have hcz70_3 : wc.cell? ⟨gb224, 3, none⟩ = some (.int .i64 a0_3) := (blk_cell BK224.out 3).trans rfl
    have hfz70_0 := blk_frozen BK224.out 0
    have hfz70_1 := blk_frozen BK224.out 1
    have hfz70_2 := blk_frozen BK224.out 2
    have hfz70_3 := blk_frozen BK224.out 3
    go_wp2
    go_meet
    case rel => exact ⟨_, (a1_0), (a1_1), (a1_2), (a1_3), (a0_0), (a0_1), (a0_2), (a0_3), H', ⟨by have := HJ2.out; first | omega | exact Nat.le_refl _⟩, ⟨by (with_reducible repeat (first | apply zNn | apply zNd | apply zNa)); refine zNf ?_ NB224_225.out _; (with_reducible repeat (first | apply zNn | apply zNd | apply zNa)); refine zNf ?_ NB224_225.out _; (with_reducible repeat (first | apply zNn | apply zNd | apply zNa)); refine zNf ?_ NB224_225.out _; (with_reducible repeat (first | apply zNn | apply zNd | apply zNa)); refine zNf ?_ NB224_225.out _; (with_reducible repeat (first | apply zNn | apply zNd | apply zNa)); refine blk_put (cs := #[.int .i64 a1_0, .int .i64 a1_1, .int .i64 a1_2, .int .i64 a0_3]) ?_ 3 _ rfl; (with_reducible repeat (first | apply zNn | apply zNd | apply zNa)); refine blk_put (cs := #[.int .i64 a1_0, .int .i64 a1_1, .int .i64 a0_2, .int .i64 a0_3]) ?_ 2 _ rfl; (with_reducible repeat (first | apply zNn | apply zNd | apply zNa)); refine blk_put (cs := #[.int .i64 a1_0, .int .i64 a0_1, .int .i64 a0_2, .int .i64 a0_3]) ?_ 1 _ rfl; (with_reducible repeat (first | apply zNn | apply zNd | apply zNa)); refine blk_put (cs := #[.int .i64 a0_0, .int .i64 a0_1, .int .i64 a0_2, .int .i64 a0_3]) ?_ 0 _ rfl; (with_reducible repeat (first | apply zNn | apply zNd | apply zNa)); exact BK224.out⟩, ⟨by (with_reducible repeat (first | apply zNn | apply zNd | apply zNa)); refine blk_put (cs := #[.int .i64 a0_0, .int .i64 a0_1, .int .i64 a0_2, .int .i64 a1_3]) ?_ 3 _ rfl; (with_reducible repeat (first | apply zNn | apply zNd | apply zNa)); refine blk_put (cs := #[.int .i64 a0_0, .int .i64 a0_1, .int .i64 a1_2, .int .i64 a1_3]) ?_ 2 _ rfl; (with_reducible repeat (first | apply zNn | apply zNd | apply zNa)); refine blk_put (cs := #[.int .i64 a0_0, .int .i64 a1_1, .int .i64 a1_2, .int .i64 a1_3]) ?_ 1 _ rfl; (with_reducible repeat (first | apply zNn | apply zNd | apply zNa)); refine blk_put (cs := #[.int .i64 a1_0, .int .i64 a1_1, .int .i64 a1_2, .int .i64 a1_3]) ?_ 0 _ rfl; (with_reducible repeat (first | apply zNn | apply zNd | apply zNa)); refine zNf ?_ NB225_224.out _; (with_reducible repeat (first | apply zNn | apply zNd | apply zNa)); refine zNf ?_ NB225_224.out _; (with_reducible repeat (first | apply zNn | apply zNd | apply zNa)); refine zNf ?_ NB225_224.out _; (with_reducible repeat (first | apply zNn | apply zNd | apply zNa)); refine zNf ?_ NB225_224.out _; (with_reducible repeat (first | apply zNn | apply zNd | apply zNa)); exact BK225.out⟩, ⟨by (with_reducible repeat (first | apply zNn | apply zNd | apply zNa)); refine zNf ?_ NB226_225.out _; (with_reducible repeat (first | apply zNn | apply zNd | apply zNa)); refine zNf ?_ NB226_225.out _; (with_reducible repeat (first | apply zNn | apply zNd | apply zNa)); refine zNf ?_ NB226_225.out _; (with_reducible repeat (first | apply zNn | apply zNd | apply zNa)); refine zNf ?_ NB226_225.out _; (with_reducible repeat (first | apply zNn | apply zNd | apply zNa)); refine zNf ?_ NB226_224.out _; (with_reducible repeat (first | apply zNn | apply zNd | apply zNa)); refine zNf ?_ NB226_224.out _; (with_reducible repeat (first | apply zNn | apply zNd | apply zNa)); refine zNf ?_ NB226_224.out _; (with_reducible repeat (first | apply zNn | apply zNd | apply zNa)); refine zNf ?_ NB226_224.out _; (with_reducible repeat (first | apply zNn | apply zNd | apply zNa)); exact BK226.out⟩, ⟨by repeat (first | (with_reducible first | exact HB.out | apply zBa | apply zBn | apply zBd | refine zBs ?_ GE224.out | refine zBs ?_ GE225.out | refine zBs ?_ GE226.out) | exact HB.out)⟩⟩
   case rest =>
    clear HC59
    try clear c1
    try clear c2
    try clear p2
    try clear c3
    try clear c4
    try clear c5
    try clear c6
    try clear c8
    try clear c10
    try clear c11
    try clear c11b0
    try clear c11b1
    try clear c12
    try clear c13
    try clear c16
    try clear c20
    try clear c21
    try clear c22
    try clear c25
    try clear c30
    try clear c31
    try clear c34
    try clear c37
    try clear c38
    try clear c41
    try clear c42
    try clear c43
    try clear c44
    try clear c45
    try clear c45b0
    try clear c45b1
    try clear c46
    try clear c47
    try clear c49
    try clear c52
    try clear c52b0
    try clear c52b1
    try clear c53
    try clear c54
    try clear c56
    try clear c60
    try clear c61
    try clear c63
    try clear c65
    try clear c65b0
    try clear c66
    try clear c67
    try clear c69
    try clear hcz14_0
    try clear hcz14_1
    try clear hcz14_2
    try clear hcz14_3
    try clear hcz17_0
    try clear hcz17_1
    try clear hcz17_2
    try clear hcz17_3
    try clear hcz19_0
    try clear hcz19_1
    try clear hcz19_2
    try clear hcz19_3
    try clear hcz20_0
    try clear hcz20_1
    try clear hcz20_2
    try clear hcz20_3
    try clear hcz23_0
    try clear hcz23_1
    try clear hcz23_2
    try clear hcz23_3
    try clear hcz26_0
    try clear hcz26_1
    try clear hcz26_2
    try clear hcz26_3
    try clear hcz28_0
    try clear hcz28_1
    try clear hcz28_2
    try clear hcz28_3
    try clear hcz29_0
    try clear hcz29_1
    try clear hcz29_2
    try clear hcz29_3
    try clear hcz32_0
    try clear hcz32_1
    try clear hcz32_2
    try clear hcz32_3
    try clear hcz35_0
    try clear hcz35_1
    try clear hcz35_2
    try clear hcz35_3
    try clear hcz39_0
    try clear hcz39_1
    try clear hcz39_2
    try clear hcz39_3
    try clear hcz44_0
    try clear hcz44_1
    try clear hcz44_2
    try clear hcz44_3
    try clear hcz48_0
    try clear hcz48_1
    try clear hcz48_2
    try clear hcz48_3
    try clear hcz50_0
    try clear hcz50_1
    try clear hcz50_2
    try clear hcz50_3
    try clear hcz51_0
    try clear hcz51_1
    try clear hcz51_2
    try clear hcz51_3
    try clear hcz55_0
    try clear hcz55_1
    try clear hcz55_2
    try clear hcz55_3
    try clear hcz57_0
    try clear hcz57_1
    try clear hcz57_2
    try clear hcz57_3
    try clear hcz58_0
    try clear hcz58_1
    try clear hcz58_2
    try clear hcz58_3
    try clear hcz62_0
    try clear hcz62_1
    try clear hcz62_2
    try clear hcz62_3
    try clear hcz64_0
    try clear hcz64_1
    try clear hcz64_2
    try clear hcz64_3
    try clear hcz68_0
    try clear hcz68_1
    try clear hcz68_2
    try clear hcz68_3
    try clear hcz70_0
    try clear hcz70_1
    try clear hcz70_2
    try clear hcz70_3
    try clear hfz14_0
    try clear hfz14_1
    try clear hfz14_2
    try clear hfz14_3
    try clear hfz17_0
    try clear hfz17_1
    try clear hfz17_2
    try clear hfz17_3
    try clear hfz19_0
    try clear hfz19_1
    try clear hfz19_2
    try clear hfz19_3
    try clear hfz20_0
    try clear hfz20_1
    try clear hfz20_2
    try clear hfz20_3
    try clear hfz23_0
    try clear hfz23_1
    try clear hfz23_2
    try clear hfz23_3
    try clear hfz26_0
    try clear hfz26_1
    try clear hfz26_2
    try clear hfz26_3
    try clear hfz28_0
    try clear hfz28_1
    try clear hfz28_2
    try clear hfz28_3
    try clear hfz29_0
    try clear hfz29_1
    try clear hfz29_2
    try clear hfz29_3
    try clear hfz32_0
    try clear hfz32_1
    try clear hfz32_2
    try clear hfz32_3
    try clear hfz35_0
    try clear hfz35_1
    try clear hfz35_2
    try clear hfz35_3
    try clear hfz39_0
    try clear hfz39_1
    try clear hfz39_2
    try clear hfz39_3
    try clear hfz44_0
    try clear hfz44_1
    try clear hfz44_2
    try clear hfz44_3
    try clear hfz48_0
    try clear hfz48_1
    try clear hfz48_2
    try clear hfz48_3
    try clear hfz50_0
    try clear hfz50_1
    try clear hfz50_2
    try clear hfz50_3
    try clear hfz51_0
    try clear hfz51_1
    try clear hfz51_2
    try clear hfz51_3
    try clear hfz55_0
    try clear hfz55_1
    try clear hfz55_2
    try clear hfz55_3
    try clear hfz57_0
    try clear hfz57_1
    try clear hfz57_2
    try clear hfz57_3
    try clear hfz58_0
    try clear hfz58_1
    try clear hfz58_2
    try clear hfz58_3
    try clear hfz62_0
    try clear hfz62_1
    try clear hfz62_2
    try clear hfz62_3
    try clear hfz64_0
    try clear hfz64_1
    try clear hfz64_2
    try clear hfz64_3
    try clear hfz68_0
    try clear hfz68_1
    try clear hfz68_2
    try clear hfz68_3
    try clear hfz70_0
    try clear hfz70_1
    try clear hfz70_2
    try clear hfz70_3
    try clear p2
    obtain ⟨kq, x225000_58, x225001_58, x225002_58, x225003_58, x226000_58, x226001_58, x226002_58, x226003_58, HA, HJ58, BK224, BK225, BK226, HB⟩ := hcut
    cases kq with
    | zero => exact absurd HA.out (by simp [impl_AddQty.j1])
    | succ kj58 =>
     have H := HA.out
     clear HA
     simp only [impl_AddQty.j1] at H
     by_cases c71 : (wrap64 (x226001_58 - x225001_58)) > 9
     case pos =>
      rw [if_pos c71] at H
      have c71b0 : decide (9 < (wrap64 (x226001_58 - x225001_58))) = true := zE c71
      clear c71
      simp only [Option.some.injEq, Prod.mk.injEq] at H
      obtain ⟨rfl, rfl, rfl, rfl, rfl⟩ := H
      have hnb72 := NB225_224.out
      have hnc72 := NB224_225.out
      have hnb73 := NB225_226.out
      have hnc73 := NB226_225.out
      have hcz74_0 : wc.cell? ⟨gb225, 0, none⟩ = some (.int .i64 x226000_58) := (blk_cell BK225.out 0).trans rfl
      have hcz74_1 : wc.cell? ⟨gb225, 1, none⟩ = some (.int .i64 x226001_58) := (blk_cell BK225.out 1).trans rfl
      have hcz74_2 : wc.cell? ⟨gb225, 2, none⟩ = some (.int .i64 x226002_58) := (blk_cell BK225.out 2).trans rfl
      have hcz74_3 : wc.cell? ⟨gb225, 3, none⟩ = some (.int .i64 x226003_58) := (blk_cell BK225.out 3).trans rfl
      have hfz74_0 := blk_frozen BK225.out 0
      have hfz74_1 := blk_frozen BK225.out 1
      have hfz74_2 := blk_frozen BK225.out 2
      have hfz74_3 := blk_frozen BK225.out 3
      have hnb75 := NB224_226.out
      have hnc75 := NB226_224.out
      have hcz76_0 : wc.cell? ⟨gb224, 0, none⟩ = some (.int .i64 x225000_58) := (blk_cell BK224.out 0).trans rfl
      have hcz76_1 : wc.cell? ⟨gb224, 1, none⟩ = some (.int .i64 x225001_58) := (blk_cell BK224.out 1).trans rfl
      have hcz76_2 : wc.cell? ⟨gb224, 2, none⟩ = some (.int .i64 x225002_58) := (blk_cell BK224.out 2).trans rfl
      have hcz76_3 : wc.cell? ⟨gb224, 3, none⟩ = some (.int .i64 x225003_58) := (blk_cell BK224.out 3).trans rfl
      have hfz76_0 := blk_frozen BK224.out 0
      have hfz76_1 := blk_frozen BK224.out 1
      have hfz76_2 := blk_frozen BK224.out 2
      have hfz76_3 := blk_frozen BK224.out 3
      have hcz77_0 : wc.cell? ⟨gb226, 0, none⟩ = some (.int .i64 0) := (blk_cell BK226.out 0).trans rfl
      have hcz77_1 : wc.cell? ⟨gb226, 1, none⟩ = some (.int .i64 0) := (blk_cell BK226.out 1).trans rfl
      have hcz77_2 : wc.cell? ⟨gb226, 2, none⟩ = some (.int .i64 0) := (blk_cell BK226.out 2).trans rfl
      have hcz77_3 : wc.cell? ⟨gb226, 3, none⟩ = some (.int .i64 0) := (blk_cell BK226.out 3).trans rfl
      have hfz77_0 := blk_frozen BK226.out 0
      have hfz77_1 := blk_frozen BK226.out 1
      have hfz77_2 := blk_frozen BK226.out 2
      have hfz77_3 := blk_frozen BK226.out 3
      go_wp2
      refine bodyPost_ret (results_ct rfl _ _ gb226 37 #[.int .i64 0, .int .i64 0, .int .i64 0, .int .i64 0] (0, 0) _ rfl (by (with_reducible repeat (first | apply zNn | apply zNd | apply zNa)); refine blk_put (cs := #[.int .i64 0, .int .i64 0, .int .i64 0, .int .i64 0]) ?_ 3 _ rfl; (with_reducible repeat (first | apply zNn | apply zNd | apply zNa)); refine blk_put (cs := #[.int .i64 0, .int .i64 0, .int .i64 0, .int .i64 0]) ?_ 2 _ rfl; (with_reducible repeat (first | apply zNn | apply zNd | apply zNa)); refine blk_put (cs := #[.int .i64 0, .int .i64 0, .int .i64 0, .int .i64 0]) ?_ 1 _ rfl; (with_reducible repeat (first | apply zNn | apply zNd | apply zNa)); refine blk_put (cs := #[.int .i64 0, .int .i64 0, .int .i64 0, .int .i64 0]) ?_ 0 _ rfl; (with_reducible repeat (first | apply zNn | apply zNd | apply zNa)); exact BK226.out) Try.underlying37 rfl (by kernel_rfl)) rfl ?_
      exact ⟨by first | rfl | (simp [errW_none, errW_some] <;> rfl) | (simp [*, errW_none, errW_some] <;> rfl), by repeat (first | (with_reducible first | exact HB.out | apply zBa | apply zBn | apply zBd | refine zBs ?_ GE224.out | refine zBs ?_ GE225.out | refine zBs ?_ GE226.out) | exact HB.out)⟩
     rw [if_neg c71] at H
     have c71b0 : decide (9 < (wrap64 (x226001_58 - x225001_58))) = false := decide_eq_false c71
     clear c71
     have H' := Aside0.mk H
     clear H
     have hnb78 := NB225_224.out
     have hnc78 := NB224_225.out
     have hnb79 := NB225_226.out
     have hnc79 := NB226_225.out
     have hcz80_0 : wc.cell? ⟨gb225, 0, none⟩ = some (.int .i64 x226000_58) := (blk_cell BK225.out 0).trans rfl
     have hcz80_1 : wc.cell? ⟨gb225, 1, none⟩ = some (.int .i64 x226001_58) := (blk_cell BK225.out 1).trans rfl
     have hcz80_2 : wc.cell? ⟨gb225, 2, none⟩ = some (.int .i64 x226002_58) := (blk_cell BK225.out 2).trans rfl
     have hcz80_3 : wc.cell? ⟨gb225, 3, none⟩ = some (.int .i64 x226003_58) := (blk_cell BK225.out 3).trans rfl
     have hfz80_0 := blk_frozen BK225.out 0
     have hfz80_1 := blk_frozen BK225.out 1
     have hfz80_2 := blk_frozen BK225.out 2
     have hfz80_3 := blk_frozen BK225.out 3
     have hnb81 := NB224_226.out
     have hnc81 := NB226_224.out
     have hcz82_0 : wc.cell? ⟨gb224, 0, none⟩ = some (.int .i64 x225000_58) := (blk_cell BK224.out 0).trans rfl
     have hcz82_1 : wc.cell? ⟨gb224, 1, none⟩ = some (.int .i64 x225001_58) := (blk_cell BK224.out 1).trans rfl
     have hcz82_2 : wc.cell? ⟨gb224, 2, none⟩ = some (.int .i64 x225002_58) := (blk_cell BK224.out 2).trans rfl
     have hcz82_3 : wc.cell? ⟨gb224, 3, none⟩ = some (.int .i64 x225003_58) := (blk_cell BK224.out 3).trans rfl
     have hfz82_0 := blk_frozen BK224.out 0
     have hfz82_1 := blk_frozen BK224.out 1
     have hfz82_2 := blk_frozen BK224.out 2
     have hfz82_3 := blk_frozen BK224.out 3
     go_wp2
     (try simp only [Act.put, List.setIfInBounds_toArray, List.set_cons_zero, List.set_cons_succ])
     go_loopg [] kj58 (fun kq w' => ∃ (x226000_3 : Int) (x226001_3 : Int), Aside0 (impl_AddQty.l0 kq x225000_58 x225001_58 x225002_58 x225003_58 x226000_3 x226001_3 x226002_58 x226003_58 = some (r1, r2, r3, r4, r5)) ∧ Aside0 (kq ≤ kj58) ∧ Aside0 (w'.heap[gb224]? = some (.cells #[.int .i64 x225000_58, .int .i64 x225001_58, .int .i64 x225002_58, .int .i64 x225003_58] 37 (0, 0))) ∧ Aside0 (w'.heap[gb225]? = some (.cells #[.int .i64 x226000_3, .int .i64 x226001_3, .int .i64 x226002_58, .int .i64 x226003_58] 37 (0, 0))) ∧ Aside0 (w'.heap[gb226]? = some (.cells #[.int .i64 0, .int .i64 0, .int .i64 0, .int .i64 0] 37 (0, 0))) ∧ Aside0 (Below w.heap.size w w'))
     case atStart => exact ⟨(x226000_58), (x226001_58), H', ⟨Nat.le_refl _⟩, ⟨by (with_reducible repeat (first | apply zNn | apply zNd | apply zNa)); exact BK224.out⟩, ⟨by (with_reducible repeat (first | apply zNn | apply zNd | apply zNa)); exact BK225.out⟩, ⟨by (with_reducible repeat (first | apply zNn | apply zNd | apply zNa)); exact BK226.out⟩, ⟨by repeat (first | (with_reducible first | exact HB.out | apply zBa | apply zBn | apply zBd | refine zBs ?_ GE224.out | refine zBs ?_ GE225.out | refine zBs ?_ GE226.out) | exact HB.out)⟩⟩
     case round =>
      clear H'
      try clear c1
      try clear c2
      try clear p2
      try clear c3
      try clear c4
      try clear c5
      try clear c6
      try clear p6
      try clear c7
      try clear c8
      try clear c10
      try clear c11
      try clear c11b0
      try clear c11b1
      try clear c12
      try clear c13
      try clear c16
      try clear c20
      try clear c21
      try clear c22
      try clear c25
      try clear c30
      try clear c31
      try clear c34
      try clear c37
      try clear c38
      try clear c41
      try clear c42
      try clear c43
      try clear c44
      try clear c45
      try clear c45b0
      try clear c45b1
      try clear c46
      try clear c47
      try clear c49
      try clear c52
      try clear c52b0
      try clear c52b1
      try clear c53
      try clear c54
      try clear c56
      try clear c60
      try clear c61
      try clear c63
      try clear p64
      try clear c65
      try clear c65b0
      try clear c66
      try clear c67
      try clear c69
      try clear c71
      try clear c71b0
      try clear c72
      try clear c73
      try clear c75
      try clear c78
      try clear c79
      try clear c81
      try clear hcz14_0
      try clear hcz14_1
      try clear hcz14_2
      try clear hcz14_3
      try clear hcz17_0
      try clear hcz17_1
      try clear hcz17_2
      try clear hcz17_3
      try clear hcz19_0
      try clear hcz19_1
      try clear hcz19_2
      try clear hcz19_3
      try clear hcz20_0
      try clear hcz20_1
      try clear hcz20_2
      try clear hcz20_3
      try clear hcz23_0
      try clear hcz23_1
      try clear hcz23_2
      try clear hcz23_3
      try clear hcz26_0
      try clear hcz26_1
      try clear hcz26_2
      try clear hcz26_3
      try clear hcz28_0
      try clear hcz28_1
      try clear hcz28_2
      try clear hcz28_3
      try clear hcz29_0
      try clear hcz29_1
      try clear hcz29_2
      try clear hcz29_3
      try clear hcz32_0
      try clear hcz32_1
      try clear hcz32_2
      try clear hcz32_3
      try clear hcz35_0
      try clear hcz35_1
      try clear hcz35_2
      try clear hcz35_3
      try clear hcz39_0
      try clear hcz39_1
      try clear hcz39_2
      try clear hcz39_3
      try clear hcz44_0
      try clear hcz44_1
      try clear hcz44_2
      try clear hcz44_3
      try clear hcz48_0
      try clear hcz48_1
      try clear hcz48_2
      try clear hcz48_3
      try clear hcz50_0
      try clear hcz50_1
      try clear hcz50_2
      try clear hcz50_3
      try clear hcz51_0
      try clear hcz51_1
      try clear hcz51_2
      try clear hcz51_3
      try clear hcz55_0
      try clear hcz55_1
      try clear hcz55_2
      try clear hcz55_3
      try clear hcz57_0
      try clear hcz57_1
      try clear hcz57_2
      try clear hcz57_3
      try clear hcz58_0
      try clear hcz58_1
      try clear hcz58_2
      try clear hcz58_3
      try clear hcz62_0
      try clear hcz62_1
      try clear hcz62_2
      try clear hcz62_3
      try clear hcz64_0
      try clear hcz64_1
      try clear hcz64_2
      try clear hcz64_3
      try clear hcz68_0
      try clear hcz68_1
      try clear hcz68_2
      try clear hcz68_3
      try clear hcz70_0
      try clear hcz70_1
      try clear hcz70_2
      try clear hcz70_3
      try clear hcz74_0
      try clear hcz74_1
      try clear hcz74_2
      try clear hcz74_3
      try clear hcz76_0
      try clear hcz76_1
      try clear hcz76_2
      try clear hcz76_3
      try clear hcz77_0
      try clear hcz77_1
      try clear hcz77_2
      try clear hcz77_3
      try clear hcz80_0
      try clear hcz80_1
      try clear hcz80_2
      try clear hcz80_3
      try clear hcz82_0
      try clear hcz82_1
      try clear hcz82_2
      try clear hcz82_3
      try clear hfz14_0
      try clear hfz14_1
      try clear hfz14_2
      try clear hfz14_3
      try clear hfz17_0
      try clear hfz17_1
      try clear hfz17_2
      try clear hfz17_3
      try clear hfz19_0
      try clear hfz19_1
      try clear hfz19_2
      try clear hfz19_3
      try clear hfz20_0
      try clear hfz20_1
      try clear hfz20_2
      try clear hfz20_3
      try clear hfz23_0
      try clear hfz23_1
      try clear hfz23_2
      try clear hfz23_3
      try clear hfz26_0
      try clear hfz26_1
      try clear hfz26_2
      try clear hfz26_3
      try clear hfz28_0
      try clear hfz28_1
      try clear hfz28_2
      try clear hfz28_3
      try clear hfz29_0
      try clear hfz29_1
      try clear hfz29_2
      try clear hfz29_3
      try clear hfz32_0
      try clear hfz32_1
      try clear hfz32_2
      try clear hfz32_3
      try clear hfz35_0
      try clear hfz35_1
      try clear hfz35_2
      try clear hfz35_3
      try clear hfz39_0
      try clear hfz39_1
      try clear hfz39_2
      try clear hfz39_3
      try clear hfz44_0
      try clear hfz44_1
      try clear hfz44_2
      try clear hfz44_3
      try clear hfz48_0
      try clear hfz48_1
      try clear hfz48_2
      try clear hfz48_3
      try clear hfz50_0
      try clear hfz50_1
      try clear hfz50_2
      try clear hfz50_3
      try clear hfz51_0
      try clear hfz51_1
      try clear hfz51_2
      try clear hfz51_3
      try clear hfz55_0
      try clear hfz55_1
      try clear hfz55_2
      try clear hfz55_3
      try clear hfz57_0
      try clear hfz57_1
      try clear hfz57_2
      try clear hfz57_3
      try clear hfz58_0
      try clear hfz58_1
      try clear hfz58_2
      try clear hfz58_3
      try clear hfz62_0
      try clear hfz62_1
      try clear hfz62_2
      try clear hfz62_3
      try clear hfz64_0
      try clear hfz64_1
      try clear hfz64_2
      try clear hfz64_3
      try clear hfz68_0
      try clear hfz68_1
      try clear hfz68_2
      try clear hfz68_3
      try clear hfz70_0
      try clear hfz70_1
      try clear hfz70_2
      try clear hfz70_3
      try clear hfz74_0
      try clear hfz74_1
      try clear hfz74_2
      try clear hfz74_3
      try clear hfz76_0
      try clear hfz76_1
      try clear hfz76_2
      try clear hfz76_3
      try clear hfz77_0
      try clear hfz77_1
      try clear hfz77_2
      try clear hfz77_3
      try clear hfz80_0
      try clear hfz80_1
      try clear hfz80_2
      try clear hfz80_3
      try clear hfz82_0
      try clear hfz82_1
      try clear hfz82_2
      try clear hfz82_3
      try clear p2
      obtain ⟨x226000_3, x226001_3, HA, HK3, BK224, BK225, BK226, HB⟩ := hrel
      cases gk with
      | zero => exact absurd HA.out (by simp [impl_AddQty.l0])
      | succ k3 =>
       have H := HA.out
       clear HA
       simp only [impl_AddQty.l0] at H
       by_cases c83 : x226001_3 > x225001_58
       case pos =>
        rw [if_pos c83] at H
        have c83b0 : decide (x225001_58 < x226001_3) = true := zE c83
        clear c83
        have H' := Aside0.mk H
        clear H
        have hnb84 := NB225_224.out
        have hnc84 := NB224_225.out
        have hnb85 := NB225_226.out
        have hnc85 := NB226_225.out
        have hcz86_0 : wr.cell? ⟨gb225, 0, none⟩ = some (.int .i64 x226000_3) := (blk_cell BK225.out 0).trans rfl
        have hcz86_1 : wr.cell? ⟨gb225, 1, none⟩ = some (.int .i64 x226001_3) := (blk_cell BK225.out 1).trans rfl
        have hcz86_2 : wr.cell? ⟨gb225, 2, none⟩ = some (.int .i64 x226002_58) := (blk_cell BK225.out 2).trans rfl
        have hcz86_3 : wr.cell? ⟨gb225, 3, none⟩ = some (.int .i64 x226003_58) := (blk_cell BK225.out 3).trans rfl
        have hfz86_0 := blk_frozen BK225.out 0
        have hfz86_1 := blk_frozen BK225.out 1
        have hfz86_2 := blk_frozen BK225.out 2
        have hfz86_3 := blk_frozen BK225.out 3
        have hnb87 := NB224_226.out
        have hnc87 := NB226_224.out
        have hcz88_0 : wr.cell? ⟨gb224, 0, none⟩ = some (.int .i64 x225000_58) := (blk_cell BK224.out 0).trans rfl
        have hcz88_1 : wr.cell? ⟨gb224, 1, none⟩ = some (.int .i64 x225001_58) := (blk_cell BK224.out 1).trans rfl
        have hcz88_2 : wr.cell? ⟨gb224, 2, none⟩ = some (.int .i64 x225002_58) := (blk_cell BK224.out 2).trans rfl
        have hcz88_3 : wr.cell? ⟨gb224, 3, none⟩ = some (.int .i64 x225003_58) := (blk_cell BK224.out 3).trans rfl
        have hfz88_0 := blk_frozen BK224.out 0
        have hfz88_1 := blk_frozen BK224.out 1
        have hfz88_2 := blk_frozen BK224.out 2
        have hfz88_3 := blk_frozen BK224.out 3
        go_wp2
        go_roundg k3
        case measure => have := HJ2.out; have := HJ58.out; have := HK3.out; omega
        case rel => exact ⟨(wrap64 (x226000_3 * 10)), (wrap64 (x226001_3 - 1)), H', ⟨by have := HJ2.out; have := HJ58.out; have := HK3.out; omega⟩, ⟨by (with_reducible repeat (first | apply zNn | apply zNd | apply zNa)); refine zNf ?_ NB224_225.out _; (with_reducible repeat (first | apply zNn | apply zNd | apply zNa)); refine zNf ?_ NB224_225.out _; (with_reducible repeat (first | apply zNn | apply zNd | apply zNa)); exact BK224.out⟩, ⟨by (with_reducible repeat (first | apply zNn | apply zNd | apply zNa)); refine blk_put (cs := #[.int .i64 (wrap64 (x226000_3 * 10)), .int .i64 x226001_3, .int .i64 x226002_58, .int .i64 x226003_58]) ?_ 1 _ rfl; (with_reducible repeat (first | apply zNn | apply zNd | apply zNa)); refine blk_put (cs := #[.int .i64 x226000_3, .int .i64 x226001_3, .int .i64 x226002_58, .int .i64 x226003_58]) ?_ 0 _ rfl; (with_reducible repeat (first | apply zNn | apply zNd | apply zNa)); exact BK225.out⟩, ⟨by (with_reducible repeat (first | apply zNn | apply zNd | apply zNa)); refine zNf ?_ NB226_225.out _; (with_reducible repeat (first | apply zNn | apply zNd | apply zNa)); refine zNf ?_ NB226_225.out _; (with_reducible repeat (first | apply zNn | apply zNd | apply zNa)); exact BK226.out⟩, ⟨by repeat (first | (with_reducible first | exact HB.out | apply zBa | apply zBn | apply zBd | refine zBs ?_ GE224.out | refine zBs ?_ GE225.out | refine zBs ?_ GE226.out) | exact HB.out)⟩⟩
       rw [if_neg c83] at H
       have c83b0 : decide (x225001_58 < x226001_3) = false := decide_eq_false c83
       clear c83
       replace H := Option.bind_eq_some_iff.mp H
       obtain ⟨⟨t229, t230, t231, t232, t233⟩, A890, H⟩ := H
       replace H : (some (t229, t230, t231, t232, t233)) = some (r1, r2, r3, r4, r5) := H
       have A89 := Aside0.mk A890
       clear A890
       simp only [Option.some.injEq, Prod.mk.injEq] at H
       obtain ⟨rfl, rfl, rfl, rfl, rfl⟩ := H
       have hnb90 := NB225_224.out
       have hnc90 := NB224_225.out
       have hnb91 := NB225_226.out
       have hnc91 := NB226_225.out
       have hcz92_0 : wr.cell? ⟨gb225, 0, none⟩ = some (.int .i64 x226000_3) := (blk_cell BK225.out 0).trans rfl
       have hcz92_1 : wr.cell? ⟨gb225, 1, none⟩ = some (.int .i64 x226001_3) := (blk_cell BK225.out 1).trans rfl
       have hcz92_2 : wr.cell? ⟨gb225, 2, none⟩ = some (.int .i64 x226002_58) := (blk_cell BK225.out 2).trans rfl
       have hcz92_3 : wr.cell? ⟨gb225, 3, none⟩ = some (.int .i64 x226003_58) := (blk_cell BK225.out 3).trans rfl
       have hfz92_0 := blk_frozen BK225.out 0
       have hfz92_1 := blk_frozen BK225.out 1
       have hfz92_2 := blk_frozen BK225.out 2
       have hfz92_3 := blk_frozen BK225.out 3
       have hnb93 := NB224_226.out
       have hnc93 := NB226_224.out
       have hcz94_0 : wr.cell? ⟨gb224, 0, none⟩ = some (.int .i64 x225000_58) := (blk_cell BK224.out 0).trans rfl
       have hcz94_1 : wr.cell? ⟨gb224, 1, none⟩ = some (.int .i64 x225001_58) := (blk_cell BK224.out 1).trans rfl
       have hcz94_2 : wr.cell? ⟨gb224, 2, none⟩ = some (.int .i64 x225002_58) := (blk_cell BK224.out 2).trans rfl
       have hcz94_3 : wr.cell? ⟨gb224, 3, none⟩ = some (.int .i64 x225003_58) := (blk_cell BK224.out 3).trans rfl
       have hfz94_0 := blk_frozen BK224.out 0
       have hfz94_1 := blk_frozen BK224.out 1
       have hfz94_2 := blk_frozen BK224.out 2
       have hfz94_3 := blk_frozen BK224.out 3
       go_wp2_with (first | ((with_reducible refine gate_callee (f := 45) rfl ?_); refine goesL_ (some 73) rfl rfl Try.func45 (by kernel_rfl) rfl #[.agg #[.int .i64 (wrap64 (x225000_58 + x226000_3)), .int .i64 x225001_58, .int .i64 x225002_58, .int .i64 x225003_58]] rfl (by (try simp only [List.map_toArray, List.map_cons, List.map_nil]); first | done | rfl | (simp only [List.length_drop, List.length_take]; rfl)) ?_; (with_reducible refine (impl_right.calls k3 (wrap64 (x225000_58 + x226000_3)) x225001_58 x225002_58 x225003_58 t229 t230 t231 t232 t233 _ A89.out).mono ?_); rintro e w95 ⟨rfl, hb⟩; refine ⟨_, rfl, ?_⟩; have n0_ := Aside0.mk (zNb (g := gb224) (o := .cells #[.int .i64 (wrap64 (x225000_58 + x226000_3)), .int .i64 x225001_58, .int .i64 x225002_58, .int .i64 x225003_58] 37 (0, 0)) (by (with_reducible repeat (first | apply zNn | apply zNd | apply zNa)); refine blk_put (cs := #[.int .i64 x225000_58, .int .i64 x225001_58, .int .i64 x225002_58, .int .i64 x225003_58]) ?_ 0 _ rfl; (with_reducible repeat (first | apply zNn | apply zNd | apply zNa)); exact BK224.out) hb); have n1_ := Aside0.mk (zNb (g := gb225) (o := .cells #[.int .i64 x226000_3, .int .i64 x226001_3, .int .i64 x226002_58, .int .i64 x226003_58] 37 (0, 0)) (by (with_reducible repeat (first | apply zNn | apply zNd | apply zNa)); refine zNf ?_ NB225_224.out _; (with_reducible repeat (first | apply zNn | apply zNd | apply zNa)); exact BK225.out) hb); have n2_ := Aside0.mk (zNb (g := gb226) (o := .cells #[.int .i64 0, .int .i64 0, .int .i64 0, .int .i64 0] 37 (0, 0)) (by (with_reducible repeat (first | apply zNn | apply zNd | apply zNa)); refine zNf ?_ NB226_224.out _; (with_reducible repeat (first | apply zNn | apply zNd | apply zNa)); exact BK226.out) hb); have n3_ := Aside0.mk (below_step (by repeat (first | (with_reducible first | exact HB.out | apply zBa | apply zBn | apply zBd | refine zBs ?_ GE224.out | refine zBs ?_ GE225.out | refine zBs ?_ GE226.out) | exact HB.out)) hb); clear BK224; clear BK225; clear BK226; clear HB; have BK224 := n0_; have BK225 := n1_; have BK226 := n2_; have HB := n3_; clear n0_ n1_ n2_ n3_; (try clear hb); (try clear hb2); (try clear hk); (try clear hi); have hcz96_0 : w95.cell? ⟨gb226, 0, none⟩ = some (.int .i64 0) := (blk_cell BK226.out 0).trans rfl; have hcz96_1 : w95.cell? ⟨gb226, 1, none⟩ = some (.int .i64 0) := (blk_cell BK226.out 1).trans rfl; have hcz96_2 : w95.cell? ⟨gb226, 2, none⟩ = some (.int .i64 0) := (blk_cell BK226.out 2).trans rfl; have hcz96_3 : w95.cell? ⟨gb226, 3, none⟩ = some (.int .i64 0) := (blk_cell BK226.out 3).trans rfl; have hfz96_0 := blk_frozen BK226.out 0; have hfz96_1 := blk_frozen BK226.out 1; have hfz96_2 := blk_frozen BK226.out 2; have hfz96_3 := blk_frozen BK226.out 3))
       refine bodyPost_ret (results_ct rfl _ _ gb226 37 #[.int .i64 t229, .int .i64 t230, .int .i64 t231, .int .i64 t232] (0, 0) _ rfl (by (with_reducible repeat (first | apply zNn | apply zNd | apply zNa)); refine blk_put (cs := #[.int .i64 t229, .int .i64 t230, .int .i64 t231, .int .i64 0]) ?_ 3 _ rfl; (with_reducible repeat (first | apply zNn | apply zNd | apply zNa)); refine blk_put (cs := #[.int .i64 t229, .int .i64 t230, .int .i64 0, .int .i64 0]) ?_ 2 _ rfl; (with_reducible repeat (first | apply zNn | apply zNd | apply zNa)); refine blk_put (cs := #[.int .i64 t229, .int .i64 0, .int .i64 0, .int .i64 0]) ?_ 1 _ rfl; (with_reducible repeat (first | apply zNn | apply zNd | apply zNa)); refine blk_put (cs := #[.int .i64 0, .int .i64 0, .int .i64 0, .int .i64 0]) ?_ 0 _ rfl; (with_reducible repeat (first | apply zNn | apply zNd | apply zNa)); exact BK226.out) Try.underlying37 rfl (by kernel_rfl)) rfl ?_
       exact ⟨by first | rfl | (simp [errW_none, errW_some] <;> rfl) | (simp [*, errW_none, errW_some] <;> rfl), by repeat (first | (with_reducible first | exact HB.out | apply zBa | apply zBn | apply zBd | refine zBs ?_ GE224.out | refine zBs ?_ GE225.out | refine zBs ?_ GE226.out) | exact HB.out)⟩

end Go.Proofs.Ytbhjgkbikmjaaaa.PFnQtySums
