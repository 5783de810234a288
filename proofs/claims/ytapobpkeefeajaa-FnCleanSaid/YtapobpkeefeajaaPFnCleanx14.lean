-- A turned copy of the print's text.
import Derived.Test.YtapobpkeefeajaaPFnCleanx0
import Derived.Test.YtapobpkeefeajaaPFnCleanx13
namespace Go.Proofs.Ytapobpkeefeajaa.PFnClean
open Go.RowKit Go.Proofs.YtapobpkeefeajaaW.PrintWords Go.Proofs.YtapobpkeefeajaaW.PrintLast Go.Proofs.YtapobpkeefeajaaW.PrintMore
attribute [local go_sem] max2_int min2_int max_two min_two max_three min_three max_four min_four
set_option maxHeartbeats 8000000
set_option maxRecDepth 100000
set_option linter.unusedVariables false
set_option linter.unusedSimpArgs false
def impl_burstOk_1.f (a0_0 : Int) (a0_1 : Int) : Option (Bool) := (impl_pointOk.f a0_0 a0_1).bind fun t489 => (some (!t489))
theorem impl_burstOk_1.calls (a0_0 : Int) (a0_1 : Int) (r : Bool) (w : World) (H : impl_burstOk_1.f a0_0 a0_1 = some r) :
 Calls Try.prog 97 #[.agg #[.int .i64 a0_0, .int .i64 a0_1]] w fun e w' => e = .returned (.bool r) ∧ Below w.heap.size w w' := by
 have hu52 := Try.underlying52
 have HB := zM (Below.refl w.heap.size w)
 unfold impl_burstOk_1.f at H
 replace H := zP H
 obtain ⟨t489, A2, H⟩ := H
 obtain rfl := zI H
 go_enter Try.func97, Try.ntmps97
 go_wp2_with (first | ((with_reducible refine gate_dst (N := 1) rfl ?_); refine box_event ?hg (N := 1) ?hd (cs := #[.int .i64 a0_0, .int .i64 a0_1]) (t := 52) ?hr ?_; (case hd | hg => rfl); (case hr => exact zh); intro gb488 hg w3 hbox hb; have n0_ := zM (below_step zb hb); have n1_ := zM (hbox); have n2_ := zM ((zw hg (below_size zb))); have n3_ := zM n2_.out; clear HB; have HB := n0_; have BK488 := n1_; have GW488 := n2_; have GE488 := n3_; clear n0_ n1_ n2_ n3_; clear hb hbox hg; obtain ⟨hcz4_0, hcz4_1, hfz4_0, hfz4_1⟩ := zc2 BK488.out) | ((with_reducible refine gate_callee (f := 98) rfl ?_); refine goesL_ (some 4) rfl rfl Try.func98 ze rfl #[.agg #[.int .i64 a0_0, .int .i64 a0_1]] rfl zg ?_; (with_reducible refine (impl_pointOk.calls a0_0 a0_1 t489 _ A2.out).mono ?_); rintro e w5 ⟨rfl, hb⟩; refine ⟨_, rfl, ?_⟩; refine zS2 (zNb (g := gb488) (o := .cells #[.int .i64 a0_0, .int .i64 a0_1] 52 (0, 0)) (zn BK488) hb) (below_step zb13 hb) ?_; clear BK488 HB; intro BK488 HB; (try clear hb); (try clear hb2); (try clear hk); (try clear hi)))
 go_ret
 exact ⟨zq, zb13⟩
def ptB (x : S52) : Bool := (decide (-1000000000 ≤ x.f0) && decide (x.f0 ≤ 1000000000)) && (decide (-1000000000 ≤ x.f1) && decide (x.f1 ≤ 1000000000))
theorem ptB_sample (a : Int) : impl_sample.f a = some (decide (-1000000000 ≤ a) && decide (a ≤ 1000000000)) := by
 unfold impl_sample.f
 by_cases h : a ≥ -1000000000
 case pos => rw [if_pos h, show decide (-1000000000 ≤ a) = true from zE h, Bool.true_and]
 rw [if_neg h, show decide (-1000000000 ≤ a) = false from decide_eq_false h, Bool.false_and]
theorem ptB_eq (x : S52) : impl_burstOk_1.f x.f0 x.f1 = some (!ptB x) := by
 unfold impl_burstOk_1.f impl_pointOk.f ptB
 rw [ptB_sample, ptB_sample]
 simp only [Option.bind_some]
 cases (decide (-1000000000 ≤ x.f0) && decide (x.f0 ≤ 1000000000)) <;> simp
theorem rdPt {xs : List S52} {i : Nat} (h : i < xs.length) : xs.take (i + 1) = xs.take i ++ [rd_T52 xs (i : Int)] := by
 rw [show rd_T52 xs (i : Int) = xs[i] by simp [rd_T52, List.getD_eq_getElem?_getD, h]]; exact (List.take_append_getElem h).symm
theorem memPt {xs : List S52} {i : Nat} (h : i < xs.length) : rd_T52 xs (i : Int) ∈ xs := by
 rw [show rd_T52 xs (i : Int) = xs[i] by simp [rd_T52, List.getD_eq_getElem?_getD, h]]; exact List.getElem_mem h
set_option maxHeartbeats 4000000 in
theorem index_calls (A0 : Option Addr) (c0 : Nat) (l0 : List S52) (w : World) (hr0 : Kd.C k52 w A0 l0.length l0) (hc0 : l0.length ≤ c0) (hm : l0.length ≤ 9000000000000000000) :
 Calls Try.prog 54 #[.slice A0 l0.length c0, .func (.func 97) #[] #[]] w fun e w' => ∃ j : Int, e = .returned (.int .i64 j) ∧ decide (0 ≤ j) = !(l0.all ptB) ∧ Below w.heap.size w w' := by
 have HR0 := zM hr0
 clear hr0
 go_enter Try.func54, Try.ntmps54
 go_wp2
 go_loopw [8] (fun v w' => ∃ (x : Int), v = .int .i64 x ∧ Aside0 (Below w.heap.size w w') ∧ Aside0 ((l0.take x.toNat).all ptB = true) ∧ Aside0 (0 ≤ x ∧ x ≤ (l0.length : Int))) (fun v _ => l0.length - (match v with | .int _ n => n.toNat | _ => 0))
 case atStart => exact ⟨0, rfl, ⟨Below.refl _ _⟩, ⟨by simp⟩, ⟨by omega⟩⟩
 case round =>
  obtain ⟨x, rfl, HB, HT, HI⟩ := hrel
  by_cases hi : x < (l0.length : Int)
  case neg =>
   have hlt : decide (x < (l0.length : Int)) = false := decide_eq_false hi
   have HQ := zM hi
   clear hi
   go_wp2
   go_ret
   refine ⟨_, rfl, ?_, HB.out⟩
   have := HT.out
   rw [List.take_of_length_le (zl2 HI HQ)] at this
   rw [this]; rfl
  have hlt : decide (x < (l0.length : Int)) = true := zE hi
  obtain ⟨ad, e1, hx0, hx1⟩ := at_T52 HR0.out x HI.out.1 hi
  subst e1
  replace hx0 := (HB.out.cell (zW w _ hx0)).trans hx0
  replace hx1 := (HB.out.cell (zW w _ hx1)).trans hx1
  have HP := zM (ptB_eq (rd_T52 l0 x))
  have p1 := eq_true HI.out.1
  have q1 := eq_true hi
  have HQ := zM hi
  have ht : l0.take (x + 1).toNat = l0.take x.toNat ++ [rd_T52 l0 x] := by
   have := rdPt (xs := l0) (i := x.toNat) (zl1 HI)
   rw [Int.toNat_of_nonneg HI.out.1] at this
   rw [← this, show (x + 1).toNat = x.toNat + 1 by have := HI.out; omega]
  have hm2 : rd_T52 l0 x ∈ l0 := by
   have := memPt (xs := l0) (i := x.toNat) (zl1 HI)
   rwa [Int.toNat_of_nonneg HI.out.1] at this
  have HM := zM hm2
  have HTT := zM ht
  have hw : wrap64 (x + 1) = x + 1 := by have := HI.out; unfold wrap64; omega
  have HW := zM hw
  clear hi hm2 ht hw
  cases hp : ptB (rd_T52 l0 x) with
  | true =>
   rw [hp] at HP
   go_wp2_with (go_at_call 97; (with_reducible refine (impl_burstOk_1.calls _ _ false _ HP.out).mono ?_); rintro e w3 ⟨rfl, hb3⟩)
   go_roundw
   case rel => exact ⟨x + 1, by first | rfl | rw [HW.out], ⟨below_step HB.out hb3⟩, ⟨by rw [HTT.out, List.all_append, HT.out]; simp [hp]⟩, ⟨zl2 HI HQ⟩⟩
   case measure => have := HI.out; have := HQ.out; have := HW.out; first | (simp only [this]; omega) | (simp; omega) | omega
  | false =>
   rw [hp] at HP
   go_wp2_with (go_at_call 97; (with_reducible refine (impl_burstOk_1.calls _ _ true _ HP.out).mono ?_); rintro e w3 ⟨rfl, hb3⟩)
   go_ret
   refine ⟨_, rfl, ?_, below_step HB.out hb3⟩
   rw [zE HI.out.1, eq_comm, Bool.not_eq_true', List.all_eq_false]
   exact ⟨_, HM.out, by simp [hp]⟩
set_option maxHeartbeats 4000000 in
theorem contains_calls (A0 : Option Addr) (c0 : Nat) (l0 : List S52) (w : World) (hr0 : Kd.C k52 w A0 l0.length l0) (hc0 : l0.length ≤ c0) (hm : l0.length ≤ 9000000000000000000) :
 Calls Try.prog 96 #[.slice A0 l0.length c0, .func (.func 97) #[] #[]] w fun e w' => e = .returned (.bool (!(l0.all ptB))) ∧ Below w.heap.size w w' := by
 have HI := zM (index_calls A0 c0 l0 w hr0 hc0 hm)
 clear hr0
 go_enter Try.func96, Try.ntmps96
 go_wp2_with (go_at_call 54; (with_reducible refine HI.out.mono ?_); rintro e w3 ⟨j, rfl, hj, hb⟩)
 go_ret
 exact ⟨by first | rfl | rw [hj] | simp [hj], hb⟩
def impl_burstOk.f (l0 : List S52) : Option Bool := some (decide ((l0.length : Int) ≤ 4096) && l0.all ptB)
set_option maxHeartbeats 4000000 in
theorem impl_burstOk.calls (A0 : Option Addr) (c0 : Nat) (l0 : List S52) (r : Bool) (w : World) (hr0 : Kd.C k52 w A0 l0.length l0) (hc0 : l0.length ≤ c0) (h : impl_burstOk.f l0 = some r) :
 Calls Try.prog 52 #[.slice A0 l0.length c0] w fun e w' => e = .returned (.bool r) ∧ Below w.heap.size w w' := by
 have hR := zI h
 clear h
 cases h1 : decide ((l0.length : Int) ≤ 4096) with
 | false =>
  rw [h1, Bool.false_and] at hR
  subst hR
  clear hr0
  go_enter Try.func52, Try.ntmps52
  go_wp2
  go_ret
  exact ⟨rfl, Below.refl _ _⟩
 | true =>
  rw [h1, Bool.true_and] at hR
  have hl := zT h1
  have HI := zM (contains_calls A0 c0 l0 w hr0 hc0 (by omega))
  clear hr0 hl
  subst hR
  go_enter Try.func52, Try.ntmps52
  go_wp2_with (go_at_call 96; (with_reducible refine HI.out.mono ?_); rintro e w3 ⟨rfl, hb⟩)
  go_ret
  exact ⟨by first | rfl | simp, hb⟩
def impl_turned.l0 : Nat → Int → Int → Int → Int → Option (Int × Int)
 | 0, _, _, _, _ => none
 | k + 1, x5, x6, x491000, x491001 => if x6 < x5 then (impl_turned.l0 k x5 (wrap64 (x6 + 1)) (wrap64 (-x491001)) x491000) else (some (x491000, x491001))
def impl_turned.f (k : Nat) (a0_0 : Int) (a0_1 : Int) (a1 : Int) : Option (Int × Int) := impl_turned.l0 k a1 0 a0_0 a0_1
theorem impl_turned.calls (k : Nat) (a0_0 : Int) (a0_1 : Int) (a1 : Int) (r1 : Int) (r2 : Int) (w : World) (H : impl_turned.f k a0_0 a0_1 a1 = some (r1, r2)) :
 Calls Try.prog 53 #[.agg #[.int .i64 a0_0, .int .i64 a0_1], .int .i64 a1] w fun e w' => e = .returned (.agg #[.int .i64 r1, .int .i64 r2]) ∧ Below w.heap.size w w' := by
 have hu52 := Try.underlying52
 have HB := zM (Below.refl w.heap.size w)
 unfold impl_turned.f at H
 have H' := zM H
 clear H
 go_enter Try.func53, Try.ntmps53
 go_wp2_with (first | ((with_reducible refine gate_dst (N := 2) rfl ?_); refine box_event ?hg (N := 2) ?hd (cs := #[.int .i64 a0_0, .int .i64 a0_1]) (t := 52) ?hr ?_; (case hd | hg => rfl); (case hr => exact zh); intro gb490 hg w3 hbox hb; have n0_ := zM (below_step zb hb); have n1_ := zM (hbox); have n2_ := zM ((zw hg (below_size zb))); have n3_ := zM n2_.out; clear HB; have HB := n0_; have BK490 := n1_; have GW490 := n2_; have GE490 := n3_; clear n0_ n1_ n2_ n3_; clear hb hbox hg) | ((with_reducible refine gate_dst (N := 4) rfl ?_); refine box_event ?hg (N := 4) ?hd (cs := #[.int .i64 0, .int .i64 0]) (t := 52) ?hr ?_; (case hd | hg => rfl); (case hr => exact zh); intro gb491 hg w4 hbox hb; have n0_ := zM (zNb (g := gb490) (o := .cells #[.int .i64 a0_0, .int .i64 a0_1] 52 (0, 0)) (zn BK490) hb); have n1_ := zM (below_step zb14 hb); have n2_ := zM (hbox); have n3_ := zM ((zw hg (below_size zb14))); have n4_ := zM n3_.out; have n5_ := zM ((by rw [hg]; exact Nat.ne_of_lt (by simpa using blk_lt BK490.out) : gb490 ≠ gb491)); have n6_ := zM ((by rw [hg]; exact Nat.ne_of_gt (by simpa using blk_lt BK490.out) : gb491 ≠ gb490)); clear BK490; clear HB; have BK490 := n0_; have HB := n1_; have BK491 := n2_; have GW491 := n3_; have GE491 := n4_; have NB490_491 := n5_; have NB491_490 := n6_; clear n0_ n1_ n2_ n3_ n4_ n5_ n6_; clear hb hbox hg))
 (try simp only [Act.put, zS1, zS2, zS3])
 go_loopg [6] k (fun kq v6 w' => ∃ (x6_1 : Int) (x491000_1 : Int) (x491001_1 : Int), v6 = .int .i64 x6_1 ∧ Aside0 (impl_turned.l0 kq a1 x6_1 x491000_1 x491001_1 = some (r1, r2)) ∧ Aside0 (kq ≤ k) ∧ Aside0 (w'.heap[gb490]? = some (.cells #[.int .i64 x491000_1, .int .i64 x491001_1] 52 (0, 0))) ∧ Aside0 (w'.heap[gb491]? = some (.cells #[.int .i64 0, .int .i64 0] 52 (0, 0))) ∧ Aside0 (Below w.heap.size w w'))
 case atStart => exact ⟨(0), (a0_0), (a0_1), zs, H', ⟨Nat.le_refl _⟩, ⟨zn BK490⟩, ⟨zn BK491⟩, ⟨zb15⟩⟩
 case round =>
  clear H'
  try clear p2
  obtain ⟨x6_1, x491000_1, x491001_1, rfl, HA, HK1, BK490, BK491, HB⟩ := hrel
  cases gk with
  | zero => exact absurd HA.out (by simp [impl_turned.l0])
  | succ k1 =>
   have H := HA.out
   clear HA
   simp only [impl_turned.l0] at H
   replace H := zI2 H
   rcases H with ⟨c5, H⟩ | ⟨c5, H⟩
   case inr =>
    have c5b0 := decide_eq_false c5
    clear c5
    simp only [Option.some.injEq, Prod.mk.injEq] at H
    obtain ⟨rfl, rfl⟩ := H
    have hnb8 := NB490_491.out
    have hnc8 := NB491_490.out
    obtain ⟨hcz9_0, hcz9_1, hfz9_0, hfz9_1⟩ := zc2 BK490.out
    obtain ⟨hcz10_0, hcz10_1, hfz10_0, hfz10_1⟩ := zc2 BK491.out
    go_wp2
    refine bodyPost_ret (results_cell_row rfl _ _ gb491 52 #[.int .i64 x491000_1, .int .i64 x491001_1] (0, 0) _ rfl (by (with_reducible repeat (first | apply zNn | apply zNd | apply zNa)); exact blk_put (blk_put (BK491.out) 0 _ rfl) 1 _ rfl) Try.underlying52 rfl ze) rfl ?_
    exact ⟨zq, zb15⟩
   have c5b0 := zE c5
   clear c5
   have H' := zM H
   clear H
   have hnb6 := NB490_491.out
   have hnc6 := NB491_490.out
   obtain ⟨hcz7_0, hcz7_1, hfz7_0, hfz7_1⟩ := zc2 BK490.out
   go_wp2
   go_roundg k1
   case measure => have := HK1.out; omega
   case rel => exact ⟨(wrap64 (x6_1 + 1)), (wrap64 (-x491001_1)), (x491000_1), zs, H', ⟨zl1 HK1⟩, ⟨by (with_reducible repeat (first | apply zNn | apply zNd | apply zNa)); refine blk_put (cs := #[.int .i64 (wrap64 (-x491001_1)), .int .i64 x491001_1]) ?_ 1 _ rfl; (with_reducible repeat (first | apply zNn | apply zNd | apply zNa)); refine blk_put (cs := #[.int .i64 x491000_1, .int .i64 x491001_1]) ?_ 0 _ rfl; (with_reducible repeat (first | apply zNn | apply zNd | apply zNa)); exact BK490.out⟩, ⟨by (with_reducible repeat (first | apply zNn | apply zNd | apply zNa)); refine zNf ?_ NB491_490.out _; (with_reducible repeat (first | apply zNn | apply zNd | apply zNa)); refine zNf ?_ NB491_490.out _; (with_reducible repeat (first | apply zNn | apply zNd | apply zNa)); exact BK491.out⟩, ⟨zb15⟩⟩
end Go.Proofs.Ytapobpkeefeajaa.PFnClean
