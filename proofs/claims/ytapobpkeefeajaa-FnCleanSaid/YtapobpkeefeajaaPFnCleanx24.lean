-- A turned copy of the print's text.
import Derived.Test.YtapobpkeefeajaaPFnCleanx0
import Derived.Test.YtapobpkeefeajaaPFnCleanx6
import Derived.Test.YtapobpkeefeajaaPFnCleanx12
import Derived.Test.YtapobpkeefeajaaPFnCleanx13
import Derived.Test.YtapobpkeefeajaaPFnCleanx15
import Derived.Test.YtapobpkeefeajaaPFnCleanx23
namespace Go.Proofs.Ytapobpkeefeajaa.PFnClean
open Go.RowKit Go.Proofs.YtapobpkeefeajaaW.PrintWords Go.Proofs.YtapobpkeefeajaaW.PrintLast Go.Proofs.YtapobpkeefeajaaW.PrintMore
attribute [local go_sem] max2_int min2_int max_two min_two max_three min_three max_four min_four
set_option maxHeartbeats 8000000
set_option maxRecDepth 100000
set_option linter.unusedVariables false
set_option linter.unusedSimpArgs false
def laws_sameBytes.f (l0 : List Int) (l1 : List Int) : Option (Bool) := some ((strOfNums l0).toList == (strOfNums l1).toList)
theorem laws_sameBytes.calls (A0 : Option Addr) (c0 : Nat) (l0 : List Int) (A1 : Option Addr) (c1 : Nat) (l1 : List Int) (r : Bool) (w : World) (hr0 : Kd.C (Kd.int .u8) w A0 l0.length l0) (hc0 : l0.length ≤ c0) (hr1 : Kd.C (Kd.int .u8) w A1 l1.length l1) (hc1 : l1.length ≤ c1) (H : laws_sameBytes.f l0 l1 = some r) :
 Calls Try.prog 21 #[.slice A0 l0.length c0, .slice A1 l1.length c1] w fun e w' => e = .returned (.bool r) ∧ Drawn0 w w' := by
 have HR0 := zM hr0
 have HC0 := zM hc0
 clear hr0 hc0
 have HR1 := zM hr1
 have HC1 := zM hc1
 clear hr1 hc1
 unfold laws_sameBytes.f at H
 obtain rfl := zI H
 have hcv3 := Kd.C_string (P := Try.prog) (A := A0) (c := c0) Try.underlying24 Try.underlying5 Try.underlying9 HR0.out
 (try have hcv3q := fun n_ => Kd.C_string (P := Try.prog) (A := A0) (c := c0) Try.underlying24 Try.underlying5 Try.underlying9 (zCn HR0.out n_))
 have hcv4 := Kd.C_string (P := Try.prog) (A := A1) (c := c1) Try.underlying24 Try.underlying5 Try.underlying9 HR1.out
 (try have hcv4q := fun n_ => Kd.C_string (P := Try.prog) (A := A1) (c := c1) Try.underlying24 Try.underlying5 Try.underlying9 (zCn HR1.out n_))
 go_enter Try.func21, Try.ntmps21
 go_wp2
 go_ret
 exact ⟨zs, zd⟩
mutual
def laws_FnClean.j0 : Nat → List Int → List Int → List (S52) → Bool → Bool → Int → Int → Int → Int → Int → Int → Option (Bool)
 | 0, _, _, _, _, _, _, _, _, _, _, _ => none
 | k + 1, x0, x4, x5, x6, x42, x582000, x582001, x582002, x582003, x582004, x582005 => if x42 = true then (some false) else (if x6 = true then (laws_FnClean.j1 k x0 x4 x5 x6 x582000 x582001 x582002 x582003 x582004 x582005) else ((some (([9] : List Int) : List Int)).bind fun y590 => ((impl_Send.f k 2 1 1 1 1 1 y590).bind fun bt593 => (laws_FnClean.j1 k x0 y590 bt593.1 bt593.2 2 1 1 1 1 1))))
def laws_FnClean.j1 : Nat → List Int → List Int → List (S52) → Bool → Int → Int → Int → Int → Int → Int → Option (Bool)
 | 0, _, _, _, _, _, _, _, _, _, _ => none
 | k + 1, x0, x4, x5, x6, x582000, x582001, x582002, x582003, x582004, x582005 => (laws_at.f x0 0).bind fun t597 => ((laws_at.f x0 1).bind fun t598 => ((impl_Air.f k x5 (Int.tmod t597 200) (Int.tmod t598 4) ([] : List (S52))).bind fun bt599 => ((impl_Hear.f k x582000 x582001 x582002 x582003 x582004 x582005 bt599.1 (x4.length : Int)).bind fun bt603 => (if x6 = true then (if bt599.2 = true then (if bt603.2.2 = true then (if bt603.2.1 = 0 then ((laws_sameBytes.f bt603.1 x4).bind fun t608 => (some t608)) else (some false)) else (some false)) else (some false)) else (some false)))))
end
def laws_FnClean.f (k : Nat) (l0 : List Int) : Option (Bool) := (laws_big.f l0).bind fun t571 => (if t571 = true then (some true) else ((spec_DrawSend.f k l0).bind fun bt572 => ((impl_Send.f k bt572.1 bt572.2.1 bt572.2.2.1 bt572.2.2.2.1 bt572.2.2.2.2.1 bt572.2.2.2.2.2.1 bt572.2.2.2.2.2.2).bind fun bt582 => ((spec_Send.f k bt572.1 bt572.2.1 bt572.2.2.1 bt572.2.2.2.1 bt572.2.2.2.2.1 bt572.2.2.2.2.2.1 bt572.2.2.2.2.2.2).bind fun bt586 => (if (bt582.2 != bt586.2) = true then (laws_FnClean.j0 k l0 bt572.2.2.2.2.2.2 bt582.1 bt582.2 true bt572.1 bt572.2.1 bt572.2.2.1 bt572.2.2.2.1 bt572.2.2.2.2.1 bt572.2.2.2.2.2.1) else (laws_FnClean.j0 k l0 bt572.2.2.2.2.2.2 bt582.1 bt582.2 ((bt582.1.length : Int) != (bt586.1.length : Int)) bt572.1 bt572.2.1 bt572.2.2.1 bt572.2.2.2.1 bt572.2.2.2.2.1 bt572.2.2.2.2.2.1))))))
theorem laws_FnClean.calls (k : Nat) (A0 : Option Addr) (c0 : Nat) (l0 : List Int) (r : Bool) (w : World) (hr0 : Kd.C (Kd.int .u8) w A0 l0.length l0) (hc0 : l0.length ≤ c0) (hr_ : r = true) (H : laws_FnClean.f k l0 = some r) :
 Calls Try.prog 4 #[.slice A0 l0.length c0] w fun e w' => e = .returned (.bool r) ∧ Below w.heap.size w w' := by
 have hu28 := Try.underlying28
 have HR0 := zM hr0
 have HC0 := zM hc0
 clear hr0 hc0
 have HB := zM (Below.refl w.heap.size w)
 unfold laws_FnClean.f at H
 replace H := zP H
 obtain ⟨t571, A2, H⟩ := H
 by_cases c3 : t571 = true
 case pos =>
  subst c3
  rw [if_pos rfl] at H
  obtain rfl := zI H
  go_enter Try.func4, Try.ntmps4
  go_wp2_with (first | ((with_reducible refine gate_callee (f := 16) rfl ?_); refine goesL_ (some 15) rfl rfl Try.func16 ze rfl #[.slice A0 l0.length c0] rfl zg ?_; (with_reducible refine (laws_big.calls _ _ l0 true _ ?side1 ?side2 A2.out).mono ?_); (case side1 => exact zc HR0.out); (case side2 => exact HC0.out); rintro e w' ⟨rfl, ⟨nd, rfl⟩⟩; refine ⟨_, rfl, ?_⟩))
  go_ret
  exact ⟨zq, zb⟩
 replace c3 := Bool.eq_false_iff.mpr c3
 subst c3
 rw [if_neg zFT] at H
 replace H := zP H
 obtain ⟨⟨t572, t573, t574, t575, t576, t577, t578⟩, A4, H⟩ := H
 dsimp only at H
 replace H := zP H
 obtain ⟨⟨t582, t585⟩, A5, H⟩ := H
 dsimp only at H
 replace H := zP H
 obtain ⟨⟨t586, t589⟩, A6, H⟩ := H
 dsimp only at H
 have HC7 := zM H
 clear H
 go_enter Try.func4, Try.ntmps4
 go_upto_region 6 with (first | ((with_reducible refine gate_callee (f := 16) rfl ?_); refine goesL_ (some 15) rfl rfl Try.func16 ze rfl #[.slice A0 l0.length c0] rfl zg ?_; (with_reducible refine (laws_big.calls _ _ l0 false _ ?side1 ?side2 A2.out).mono ?_); (case side1 => exact zc HR0.out); (case side2 => exact HC0.out); rintro e w' ⟨rfl, ⟨nd, rfl⟩⟩; refine ⟨_, rfl, ?_⟩) | ((with_reducible refine gate_callee (f := 17) rfl ?_); refine goesL_ (some 18) rfl rfl Try.func17 ze rfl #[.slice A0 l0.length c0] rfl zg ?_; (with_reducible refine (spec_DrawSend.calls k _ _ l0 t572 t573 t574 t575 t576 t577 t578 _ ?side1 ?side2 A4.out).mono ?_); (case side1 => exact zc HR0.out); (case side2 => exact HC0.out); rintro e w8 ⟨v579, rfl, ho0, hb⟩; refine ⟨_, rfl, ?_⟩; refine zS2 (Kd.R_lower ho0 (below_size zb)) (below_step zb hb) ?_; clear HB; intro HO580 HB; (try clear hb); (try clear hb2); (try clear hk); (try clear hi); (try clear ho0)) | ((with_reducible refine gate_dst (N := 3) rfl ?_); (try (refine gate_guard (by rfl) ?_; dsimp only)); refine box_event ?hg (N := 3) ?hd (cs := #[.int .i64 0, .int .i64 0, .int .i64 0, .int .i64 0, .int .i64 0, .int .i64 0]) (t := 28) ?hr ?_; (case hd | hg => rfl); (case hr => exact zh); intro gb581 hg w9 hbox hb; have n0_ := zM (Kd.R_below (zr HO580) hb); have n1_ := zM (below_step zb hb); have n2_ := zM (hbox); have n3_ := zM ((zw hg (below_size zb))); have n4_ := zM n3_.out; clear HO580; clear HB; have HO580 := n0_; have HB := n1_; have BK581 := n2_; have GW581 := n3_; have GE581 := n4_; clear n0_ n1_ n2_ n3_ n4_; clear hb hbox hg; obtain ⟨hcz10_0, hcz10_1, hcz10_2, hcz10_3, hcz10_4, hcz10_5, hfz10_0, hfz10_1, hfz10_2, hfz10_3, hfz10_4, hfz10_5⟩ := zc6 BK581.out; obtain ⟨Ao11, co11, eo11⟩ := Kd.R_slice HO580.out; subst eo11) | ((with_reducible refine gate_callee (f := 10) rfl ?_); refine goesL_ (some 24) rfl rfl Try.func10 ze rfl #[.agg #[.int .i64 t572, .int .i64 t573, .int .i64 t574, .int .i64 t575, .int .i64 t576, .int .i64 t577], .slice Ao11 t578.length co11] rfl zg ?_; (with_reducible refine (impl_Send.calls k t572 t573 t574 t575 t576 t577 _ _ t578 t582 t585 _ ?side1 ?side2 A5.out).mono ?_); (case side1 => refine (Kd.R_reads' (e := 5) (base := w.heap.size) (ok := fun k_ => True) (n := t578.length) (c := co11) ?_).2.2; exact (by (with_reducible repeat (first | apply zRa | apply zRn | apply zRd)); exact (Kd.R_mono (Kd.R_far (p := ⟨gb581, 5, none⟩) (Kd.R_far (p := ⟨gb581, 4, none⟩) (Kd.R_far (p := ⟨gb581, 3, none⟩) (Kd.R_far (p := ⟨gb581, 2, none⟩) (Kd.R_far (p := ⟨gb581, 1, none⟩) (Kd.R_far (p := ⟨gb581, 0, none⟩) (Kd.R_types HO580.out BK581.out (by decide)) (fun _ hk => hk.2) (.int .i64 t572)) (fun _ hk => hk.2) (.int .i64 t573)) (fun _ hk => hk.2) (.int .i64 t574)) (fun _ hk => hk.2) (.int .i64 t575)) (fun _ hk => hk.2) (.int .i64 t576)) (fun _ hk => hk.2) (.int .i64 t577)) (fun _ h_ => h_.1)))); (case side2 => exact (Kd.R_reads' HO580.out).2.1); rintro e w12 ⟨v583, rfl, ho0, hb⟩; refine ⟨_, rfl, ?_⟩; refine zS4 (Kd.R_below (by (with_reducible repeat (first | apply zRa | apply zRn | apply zRd)); exact (Kd.R_mono (Kd.R_far (p := ⟨gb581, 5, none⟩) (Kd.R_far (p := ⟨gb581, 4, none⟩) (Kd.R_far (p := ⟨gb581, 3, none⟩) (Kd.R_far (p := ⟨gb581, 2, none⟩) (Kd.R_far (p := ⟨gb581, 1, none⟩) (Kd.R_far (p := ⟨gb581, 0, none⟩) (Kd.R_types HO580.out BK581.out (by decide)) (fun _ hk => hk.2) (.int .i64 t572)) (fun _ hk => hk.2) (.int .i64 t573)) (fun _ hk => hk.2) (.int .i64 t574)) (fun _ hk => hk.2) (.int .i64 t575)) (fun _ hk => hk.2) (.int .i64 t576)) (fun _ hk => hk.2) (.int .i64 t577)) (fun _ h_ => h_.1))) hb) (Kd.R_lower ho0 (below_size zb25)) (zNb (g := gb581) (o := .cells #[.int .i64 t572, .int .i64 t573, .int .i64 t574, .int .i64 t575, .int .i64 t576, .int .i64 t577] 28 (0, 0)) (by (with_reducible repeat (first | apply zNn | apply zNd | apply zNa)); exact blk_put (blk_put (blk_put (blk_put (blk_put (blk_put (BK581.out) 0 _ rfl) 1 _ rfl) 2 _ rfl) 3 _ rfl) 4 _ rfl) 5 _ rfl) hb) (below_step zb25 hb) ?_; clear HO580 BK581 HB; intro HO580 HO584 BK581 HB; (try clear hb); (try clear hb2); (try clear hk); (try clear hi); (try clear ho0); obtain ⟨hcz13_0, hcz13_1, hcz13_2, hcz13_3, hcz13_4, hcz13_5, hfz13_0, hfz13_1, hfz13_2, hfz13_3, hfz13_4, hfz13_5⟩ := zc6 BK581.out) | ((with_reducible refine gate_callee (f := 7) rfl ?_); refine goesL_ (some 30) rfl rfl Try.func7 ze rfl #[.agg #[.int .i64 t572, .int .i64 t573, .int .i64 t574, .int .i64 t575, .int .i64 t576, .int .i64 t577], .slice Ao11 t578.length co11] rfl zg ?_; (with_reducible refine (spec_Send.calls k t572 t573 t574 t575 t576 t577 _ _ t578 t586 t589 _ ?side1 ?side2 A6.out).mono ?_); (case side1 => exact zc (Kd.R_reads' HO580.out).2.2); (case side2 => exact (Kd.R_reads' HO580.out).2.1); rintro e w14 ⟨v587, rfl, ho0, hb⟩; refine ⟨_, rfl, ?_⟩; refine zS5 (Kd.R_below (zr HO580) hb) (Kd.R_elder' (zr HO584) (Kd.R_base ho0) hb) (Kd.R_lower (Kd.R_new' ho0 (Kd.R_lt (zr HO584))) (below_size zb25)) (zNb (g := gb581) (o := .cells #[.int .i64 t572, .int .i64 t573, .int .i64 t574, .int .i64 t575, .int .i64 t576, .int .i64 t577] 28 (0, 0)) (zn BK581) hb) (below_step zb25 hb) ?_; clear HO580 HO584 BK581 HB; intro HO580 HO584 HO588 BK581 HB; (try clear hb); (try clear hb2); (try clear hk); (try clear hi); (try clear ho0)))
 (try simp only [Act.put, zS1, zS2, zS3])
 go_cut [42] (fun v42 wc => ∃ (kq : Nat) (x42_6 : Bool), v42 = .bool x42_6 ∧ Aside0 (laws_FnClean.j0 kq l0 t578 t582 t585 x42_6 t572 t573 t574 t575 t576 t577 = some r) ∧ Aside0 (kq ≤ k) ∧ Aside0 (Kd.R (Kd.int .u8) 5 wc w.heap.size (fun _ => True) (.slice Ao11 t578.length co11) t578) ∧ Aside0 (Kd.R k52 52 wc w.heap.size (fun _ => True) v583 t582) ∧ Aside0 (wc.heap[gb581]? = some (.cells #[.int .i64 t572, .int .i64 t573, .int .i64 t574, .int .i64 t575, .int .i64 t576, .int .i64 t577] 28 (0, 0))) ∧ Aside0 (Below w.heap.size w wc))
 case first =>
  have H := HC7.out
  clear HC7
  replace H := zI2 H
  rcases H with ⟨c15, H⟩ | ⟨c15, H⟩
  case inl =>
   have c15b0 : (t585 != t589) = true := c15
   (try (have c15b1 : decide (t585 = t589) = false := by simpa using c15))
   (try (have c15b2 : (t585 == t589) = false := by simpa using c15))
   (try (have c15b3 : ¬ (t585 = t589) := by simpa using c15))
   clear c15
   (first | rw [c15b0] | (simp only [i64_w, i32_w]; rw [c15b0]) | skip)
   have H' := zM H
   clear H
   go_wp2
   go_meet
   case rel => exact ⟨_, (true), zs, H', ⟨zo⟩, ⟨zr HO580⟩, ⟨by (with_reducible repeat (first | apply zRa | apply zRn | apply zRd)); first | exact Kd.R_mono HO584.out (fun _ hk => trivial) | (subst_vars; exact Kd.R_mono HO584.out (fun _ hk => trivial))⟩, ⟨zn BK581⟩, ⟨zb25⟩⟩
  have c15b0 : (t585 != t589) = false := by simpa using c15
  (try (have c15b1 : decide (t585 = t589) = true := by simpa using c15))
  (try (have c15b2 : (t585 == t589) = true := by simpa using c15))
  clear c15
  (first | rw [c15b0] | (simp only [i64_w, i32_w]; rw [c15b0]) | skip)
  have H' := zM H
  clear H
  obtain ⟨Ao16, co16, eo16⟩ := Kd.R_slice HO584.out
  subst eo16
  obtain ⟨Ao17, co17, eo17⟩ := Kd.R_slice HO588.out
  subst eo17
  go_wp2
  go_meet
  case rel => exact ⟨_, (((t582.length : Int) != (t586.length : Int))), zs, H', ⟨zo⟩, ⟨zr HO580⟩, ⟨by (with_reducible repeat (first | apply zRa | apply zRn | apply zRd)); first | exact Kd.R_mono HO584.out (fun _ hk => trivial) | (subst_vars; exact Kd.R_mono HO584.out (fun _ hk => trivial))⟩, ⟨zn BK581⟩, ⟨zb25⟩⟩
 case rest =>
  clear HC7
  try clear c1
  try clear p2
  try clear c3
  try clear c4
  try clear c7
  try clear c10
  try clear c15
  try clear c15b0
  try clear c15b1
  try clear c15b2
  try clear c16
  try clear c17
  try clear hcz10_0
  try clear hcz10_1
  try clear hcz10_2
  try clear hcz10_3
  try clear hcz10_4
  try clear hcz10_5
  try clear hcz13_0
  try clear hcz13_1
  try clear hcz13_2
  try clear hcz13_3
  try clear hcz13_4
  try clear hcz13_5
  try clear hfz10_0
  try clear hfz10_1
  try clear hfz10_2
  try clear hfz10_3
  try clear hfz10_4
  try clear hfz10_5
  try clear hfz13_0
  try clear hfz13_1
  try clear hfz13_2
  try clear hfz13_3
  try clear hfz13_4
  try clear hfz13_5
  obtain ⟨kq, x42_6, rfl, HA, HJ6, HO_4, HO_5, BK581, HB⟩ := hcut
  cases kq with
  | zero => exact absurd HA.out (by simp [laws_FnClean.j0])
  | succ kj6 =>
   have H := HA.out
   clear HA
   simp only [laws_FnClean.j0] at H
   by_cases c18 : x42_6 = true
   case pos =>
    subst c18
    rw [if_pos rfl] at H
    exact absurd (zI H) (by rw [hr_]; decide)
   replace c18 := Bool.eq_false_iff.mpr c18
   subst c18
   rw [if_neg zFT] at H
   have HC19 := zM H
   clear H
   go_upto_if 44 with (fail)
   go_cut [4, 5, 6] (fun v4 v5 v6 wc => ∃ (kq : Nat) (x4_18 : List Int) (x5_18 : List (S52)) (x6_18 : Bool) (x582000_18 : Int) (x582001_18 : Int) (x582002_18 : Int) (x582003_18 : Int) (x582004_18 : Int) (x582005_18 : Int), v6 = .bool x6_18 ∧ Aside0 (laws_FnClean.j1 kq l0 x4_18 x5_18 x6_18 x582000_18 x582001_18 x582002_18 x582003_18 x582004_18 x582005_18 = some r) ∧ Aside0 (kq ≤ kj6) ∧ Aside0 (Kd.R (Kd.int .u8) 5 wc w.heap.size (fun _ => True) v4 x4_18) ∧ Aside0 (Kd.R k52 52 wc w.heap.size (fun _ => True) v5 x5_18) ∧ Aside0 (wc.heap[gb581]? = some (.cells #[.int .i64 x582000_18, .int .i64 x582001_18, .int .i64 x582002_18, .int .i64 x582003_18, .int .i64 x582004_18, .int .i64 x582005_18] 28 (0, 0))) ∧ Aside0 (Below w.heap.size w wc))
   case first =>
    have H := HC19.out
    clear HC19
    by_cases c20 : t585 = true
    case pos =>
     subst c20
     rw [if_pos rfl] at H
     have H' := zM H
     clear H
     go_wp2
     go_meet
     case rel => exact ⟨_, (t578), (t582), (true), (t572), (t573), (t574), (t575), (t576), (t577), zs, H', ⟨by have := HJ6.out; first | omega | exact Nat.le_refl _⟩, ⟨zr HO_4⟩, ⟨zr HO_5⟩, ⟨zn BK581⟩, ⟨zb25⟩⟩
    replace c20 := Bool.eq_false_iff.mpr c20
    subst c20
    rw [if_neg zFT] at H
    replace H := zY H
    obtain ⟨y590, Ny590, H⟩ := H
    replace H := zP H
    obtain ⟨⟨t593, t596⟩, A21, H⟩ := H
    dsimp only at H
    have H' := zM H
    clear H
    obtain ⟨hcz22_0, hcz22_1, hcz22_2, hcz22_3, hcz22_4, hcz22_5, hfz22_0, hfz22_1, hfz22_2, hfz22_3, hfz22_4, hfz22_5⟩ := zc6 BK581.out
    go_wp2_with (first | ((with_reducible refine gate_dst (N := 46) rfl ?_); (try (refine gate_guard (by rfl) ?_; dsimp only)); refine Kd.R_lit (Kd.int .u8) _ 5 ?hg (N := 46) ?hd (xs := ([9] : List Int)) (inner := [.int .u8 9]) (ok := fun _ => True) (okp := fun _ => True) ?hr ?hp (fun _ hk => hk) trivial (Below.refl _ _) (Nat.le_refl _) (by simp) ?_; (case hd | hg => rfl); (case hr => exact zh); (case hp => exact (Reps.one (show Kd.M (Kd.int .u8) _ _ _ 9 [.int .u8 9] from rfl) (Reps.none _ _))); intro v591 w23 ho24 hb hg_ hnew_; clear hg_ hnew_; (first | rw [← Ny590.out] at ho24 | simp only [Int.reduceToNat, ← Ny590.out] at ho24); refine zS5 (Kd.R_elder' (by (with_reducible repeat (first | apply zRa | apply zRn | apply zRd)); exact (Kd.R_mono (Kd.R_far (p := ⟨gb581, 5, none⟩) (Kd.R_far (p := ⟨gb581, 4, none⟩) (Kd.R_far (p := ⟨gb581, 3, none⟩) (Kd.R_far (p := ⟨gb581, 2, none⟩) (Kd.R_far (p := ⟨gb581, 1, none⟩) (Kd.R_far (p := ⟨gb581, 0, none⟩) (Kd.R_types HO_4.out BK581.out (by decide)) (fun _ hk => hk.2) (.int .i64 2)) (fun _ hk => hk.2) (.int .i64 1)) (fun _ hk => hk.2) (.int .i64 1)) (fun _ hk => hk.2) (.int .i64 1)) (fun _ hk => hk.2) (.int .i64 1)) (fun _ hk => hk.2) (.int .i64 1)) (fun _ h_ => h_.1))) (Kd.R_base ho24) hb) (Kd.R_below (by (with_reducible repeat (first | apply zRa | apply zRn | apply zRd)); exact (Kd.R_mono (Kd.R_far (p := ⟨gb581, 5, none⟩) (Kd.R_far (p := ⟨gb581, 4, none⟩) (Kd.R_far (p := ⟨gb581, 3, none⟩) (Kd.R_far (p := ⟨gb581, 2, none⟩) (Kd.R_far (p := ⟨gb581, 1, none⟩) (Kd.R_far (p := ⟨gb581, 0, none⟩) (Kd.R_types HO_5.out BK581.out (by decide)) (fun _ hk => hk.2) (.int .i64 2)) (fun _ hk => hk.2) (.int .i64 1)) (fun _ hk => hk.2) (.int .i64 1)) (fun _ hk => hk.2) (.int .i64 1)) (fun _ hk => hk.2) (.int .i64 1)) (fun _ hk => hk.2) (.int .i64 1)) (fun _ h_ => h_.1))) hb) (Kd.R_lower (Kd.R_new' ho24 (Kd.R_lt (by (with_reducible repeat (first | apply zRa | apply zRn | apply zRd)); exact (Kd.R_mono (Kd.R_far (p := ⟨gb581, 5, none⟩) (Kd.R_far (p := ⟨gb581, 4, none⟩) (Kd.R_far (p := ⟨gb581, 3, none⟩) (Kd.R_far (p := ⟨gb581, 2, none⟩) (Kd.R_far (p := ⟨gb581, 1, none⟩) (Kd.R_far (p := ⟨gb581, 0, none⟩) (Kd.R_types HO_4.out BK581.out (by decide)) (fun _ hk => hk.2) (.int .i64 2)) (fun _ hk => hk.2) (.int .i64 1)) (fun _ hk => hk.2) (.int .i64 1)) (fun _ hk => hk.2) (.int .i64 1)) (fun _ hk => hk.2) (.int .i64 1)) (fun _ hk => hk.2) (.int .i64 1)) (fun _ h_ => h_.1))))) (below_size zb25)) (zNb (g := gb581) (o := .cells #[.int .i64 2, .int .i64 1, .int .i64 1, .int .i64 1, .int .i64 1, .int .i64 1] 28 (0, 0)) (by (with_reducible repeat (first | apply zNn | apply zNd | apply zNa)); exact blk_put (blk_put (blk_put (blk_put (blk_put (blk_put (BK581.out) 0 _ rfl) 1 _ rfl) 2 _ rfl) 3 _ rfl) 4 _ rfl) 5 _ rfl) hb) (below_step zb25 hb) ?_; clear HO_4 HO_5 BK581 HB; intro HO_4 HO_5 HO592 BK581 HB; clear hb ho24; obtain ⟨hcz25_0, hcz25_1, hcz25_2, hcz25_3, hcz25_4, hcz25_5, hfz25_0, hfz25_1, hfz25_2, hfz25_3, hfz25_4, hfz25_5⟩ := zc6 BK581.out; obtain ⟨Ao26, co26, eo26⟩ := Kd.R_slice HO592.out; subst eo26) | ((with_reducible refine gate_callee (f := 10) rfl ?_); refine goesL_ (some 50) rfl rfl Try.func10 ze rfl #[.agg #[.int .i64 2, .int .i64 1, .int .i64 1, .int .i64 1, .int .i64 1, .int .i64 1], .slice Ao26 y590.length co26] rfl zg ?_; (with_reducible refine (impl_Send.calls kj6 2 1 1 1 1 1 _ _ y590 t593 t596 _ ?side1 ?side2 A21.out).mono ?_); (case side1 => exact zc (Kd.R_reads' HO592.out).2.2); (case side2 => exact (Kd.R_reads' HO592.out).2.1); rintro e w27 ⟨v594, rfl, ho0, hb⟩; refine ⟨_, rfl, ?_⟩; refine zS6 (Kd.R_below (zr HO_4) hb) (Kd.R_elder' (zr HO_5) (Kd.R_base ho0) hb) (Kd.R_below (zr HO592) hb) (Kd.R_lower (Kd.R_new' ho0 (Kd.R_lt (zr HO_5))) (below_size zb25)) (zNb (g := gb581) (o := .cells #[.int .i64 2, .int .i64 1, .int .i64 1, .int .i64 1, .int .i64 1, .int .i64 1] 28 (0, 0)) (zn BK581) hb) (below_step zb25 hb) ?_; clear HO_4 HO_5 HO592 BK581 HB; intro HO_4 HO_5 HO592 HO595 BK581 HB; (try clear hb); (try clear hb2); (try clear hk); (try clear hi); (try clear ho0)))
    go_meet
    case rel => exact ⟨_, (y590), (t593), (t596), (2), (1), (1), (1), (1), (1), zs, H', ⟨by have := HJ6.out; first | omega | exact Nat.le_refl _⟩, ⟨by (with_reducible repeat (first | apply zRa | apply zRn | apply zRd)); first | exact Kd.R_mono HO592.out (fun _ hk => trivial) | (subst_vars; exact Kd.R_mono HO592.out (fun _ hk => trivial))⟩, ⟨by (with_reducible repeat (first | apply zRa | apply zRn | apply zRd)); first | exact Kd.R_mono HO595.out (fun _ hk => trivial) | (subst_vars; exact Kd.R_mono HO595.out (fun _ hk => trivial))⟩, ⟨zn BK581⟩, ⟨zb25⟩⟩
   case rest =>
    clear HC19
    try clear c1
    try clear c2
    try clear p2
    try clear c3
    try clear c4
    try clear c7
    try clear c10
    try clear c15
    try clear c15b0
    try clear c15b1
    try clear c15b2
    try clear c16
    try clear c17
    try clear c18
    try clear c20
    try clear hcz10_0
    try clear hcz10_1
    try clear hcz10_2
    try clear hcz10_3
    try clear hcz10_4
    try clear hcz10_5
    try clear hcz13_0
    try clear hcz13_1
    try clear hcz13_2
    try clear hcz13_3
    try clear hcz13_4
    try clear hcz13_5
    try clear hcz22_0
    try clear hcz22_1
    try clear hcz22_2
    try clear hcz22_3
    try clear hcz22_4
    try clear hcz22_5
    try clear hcz25_0
    try clear hcz25_1
    try clear hcz25_2
    try clear hcz25_3
    try clear hcz25_4
    try clear hcz25_5
    try clear hfz10_0
    try clear hfz10_1
    try clear hfz10_2
    try clear hfz10_3
    try clear hfz10_4
    try clear hfz10_5
    try clear hfz13_0
    try clear hfz13_1
    try clear hfz13_2
    try clear hfz13_3
    try clear hfz13_4
    try clear hfz13_5
    try clear hfz22_0
    try clear hfz22_1
    try clear hfz22_2
    try clear hfz22_3
    try clear hfz22_4
    try clear hfz22_5
    try clear hfz25_0
    try clear hfz25_1
    try clear hfz25_2
    try clear hfz25_3
    try clear hfz25_4
    try clear hfz25_5
    try clear p2
    obtain ⟨kq, x4_18, x5_18, x6_18, x582000_18, x582001_18, x582002_18, x582003_18, x582004_18, x582005_18, rfl, HA, HJ18, HO_4, HO_5, BK581, HB⟩ := hcut
    cases kq with
    | zero => exact absurd HA.out (by simp [laws_FnClean.j1])
    | succ kj18 =>
     have H := HA.out
     clear HA
     simp only [laws_FnClean.j1] at H
     replace H := zP H
     obtain ⟨t597, A28, H⟩ := H
     replace H := zP H
     obtain ⟨t598, A29, H⟩ := H
     replace H := zP H
     obtain ⟨⟨t599, t600⟩, A30, H⟩ := H
     dsimp only at H
     replace H := zP H
     obtain ⟨⟨t603, t606, t607⟩, A31, H⟩ := H
     dsimp only at H
     by_cases c32 : x6_18 = true
     case neg =>
      replace c32 := Bool.eq_false_iff.mpr c32
      subst c32
      rw [if_neg zFT] at H
      exact absurd (zI H) (by rw [hr_]; decide)
     subst c32
     rw [if_pos rfl] at H
     by_cases c33 : t600 = true
     case neg =>
      replace c33 := Bool.eq_false_iff.mpr c33
      subst c33
      rw [if_neg zFT] at H
      exact absurd (zI H) (by rw [hr_]; decide)
     subst c33
     rw [if_pos rfl] at H
     by_cases c34 : t607 = true
     case neg =>
      replace c34 := Bool.eq_false_iff.mpr c34
      subst c34
      rw [if_neg zFT] at H
      exact absurd (zI H) (by rw [hr_]; decide)
     subst c34
     rw [if_pos rfl] at H
     replace H := zI2 H
     rcases H with ⟨c35, H⟩ | ⟨c35, H⟩
     case inr =>
      have c35b0 : (t606 == 0) = false := beq_eq_false_iff_ne.mpr c35
      have c35b1 : (t606 != 0) = true := bne_iff_ne.mpr c35
      exact absurd (zI H) (by rw [hr_]; decide)
     have c35b0 : (t606 == 0) = true := beq_iff_eq.mpr c35
     have c35b1 : (t606 != 0) = false := bne_eq_false_iff_eq.mpr c35
     clear c35
     replace H := zP H
     obtain ⟨t608, A36, H⟩ := H
     obtain rfl := zI H
     go_wp2_with (first | ((with_reducible refine gate_callee (f := 19) rfl ?_); refine goesL_ (some 56) rfl rfl Try.func19 ze rfl #[.slice A0 l0.length c0, .int .i64 0] rfl zg ?_; (with_reducible refine (laws_at.calls _ _ l0 0 t597 _ ?side1 ?side2 A28.out).mono ?_); (case side1 => exact zc (Kd.C_below HR0.out HB.out)); (case side2 => exact HC0.out); rintro e w' ⟨rfl, ⟨nd, rfl⟩⟩; refine ⟨_, rfl, ?_⟩) | ((with_reducible refine gate_callee (f := 19) rfl ?_); refine goesL_ (some 59) rfl rfl Try.func19 ze rfl #[.slice A0 l0.length c0, .int .i64 1] rfl zg ?_; (with_reducible refine (laws_at.calls _ _ l0 1 t598 _ ?side1 ?side2 A29.out).mono ?_); (case side1 => exact zc (Kd.C_below HR0.out zb25)); (case side2 => exact HC0.out); rintro e w' ⟨rfl, ⟨nd, rfl⟩⟩; refine ⟨_, rfl, ?_⟩; obtain ⟨Ao37, co37, eo37⟩ := Kd.R_slice HO_5.out; subst eo37) | ((with_reducible refine gate_callee (f := 18) rfl ?_); refine goesL_ (some 61) rfl rfl Try.func18 ze rfl #[.slice Ao37 x5_18.length co37, .int .i64 (Int.tmod t597 200), .int .i64 (Int.tmod t598 4), .slice none 0 0] rfl zg ?_; (refine (impl_Air.calls kj18 _ _ x5_18 (Int.tmod t597 200) (Int.tmod t598 4) _ _ ([] : List (S52)) t599 true _ ?side1 ?side2 ?side3 ?side4 A30.out).mono ?_); (case side1 => exact zc (Kd.R_reads' HO_5.out).2.2); (case side2 => exact (Kd.R_reads' HO_5.out).2.1); (case side3 => exact Kd.C_nil _ _); (case side4 => exact Nat.le_refl _); rintro e w38 ⟨v601, rfl, ho0, hb⟩; refine ⟨_, rfl, ?_⟩; refine zS5 (Kd.R_below (zr HO_4) hb) (Kd.R_elder' (zr HO_5) (Kd.R_base ho0) hb) (Kd.R_lower (Kd.R_new' ho0 (Kd.R_lt (zr HO_5))) (below_size zb25)) (zNb (g := gb581) (o := .cells #[.int .i64 x582000_18, .int .i64 x582001_18, .int .i64 x582002_18, .int .i64 x582003_18, .int .i64 x582004_18, .int .i64 x582005_18] 28 (0, 0)) (zn BK581) hb) (below_step zb25 hb) ?_; clear HO_4 HO_5 BK581 HB; intro HO_4 HO_5 HO602 BK581 HB; (try clear hb); (try clear hb2); (try clear hk); (try clear hi); (try clear ho0); obtain ⟨hcz39_0, hcz39_1, hcz39_2, hcz39_3, hcz39_4, hcz39_5, hfz39_0, hfz39_1, hfz39_2, hfz39_3, hfz39_4, hfz39_5⟩ := zc6 BK581.out; obtain ⟨Ao40, co40, eo40⟩ := Kd.R_slice HO_4.out; subst eo40; obtain ⟨Ao41, co41, eo41⟩ := Kd.R_slice HO602.out; subst eo41) | ((with_reducible refine gate_callee (f := 20) rfl ?_); refine goesL_ (some 69) rfl rfl Try.func20 ze rfl #[.agg #[.int .i64 x582000_18, .int .i64 x582001_18, .int .i64 x582002_18, .int .i64 x582003_18, .int .i64 x582004_18, .int .i64 x582005_18], .slice Ao41 t599.length co41, .int .i64 (x4_18.length : Int)] rfl zg ?_; (with_reducible refine (impl_Hear.calls kj18 x582000_18 x582001_18 x582002_18 x582003_18 x582004_18 x582005_18 _ _ t599 (x4_18.length : Int) t603 t606 true _ ?side1 ?side2 A31.out).mono ?_); (case side1 => exact zc (Kd.R_reads' HO602.out).2.2); (case side2 => exact (Kd.R_reads' HO602.out).2.1); rintro e w42 ⟨Ah, ch, rfl, hCh, hLh, hb⟩; refine ⟨_, rfl, ?_⟩; have HLh := zM hLh; clear hLh; have n0_ := zM (Kd.R_below (zr HO_4) hb); have n1_ := zM (Kd.R_below (zr HO_5) hb); have n2_ := zM (Kd.R_below (zr HO602) hb); have n3_ := zM hCh; have n4_ := zM (zNb (g := gb581) (o := .cells #[.int .i64 x582000_18, .int .i64 x582001_18, .int .i64 x582002_18, .int .i64 x582003_18, .int .i64 x582004_18, .int .i64 x582005_18] 28 (0, 0)) (zn BK581) hb); have n5_ := zM (below_step zb25 hb); clear HO_4; clear HO_5; clear HO602; clear BK581; clear HB; have HO_4 := n0_; have HO_5 := n1_; have HO602 := n2_; have HO605 := n3_; have BK581 := n4_; have HB := n5_; clear n0_ n1_ n2_ n3_ n4_ n5_; (try clear hb); (try clear hb2); (try clear hk); (try clear hi); (try clear ho0); (try clear hCh)) | (go_at_call 21; (with_reducible refine (laws_sameBytes.calls _ _ t603 _ _ x4_18 t608 _ ?side1 ?side2 ?side3 ?side4 A36.out).mono ?_); (case side1 => exact zc HO605.out); (case side2 => exact HLh.out); (case side3 => exact zc (Kd.R_reads' HO_4.out).2.2); (case side4 => exact (Kd.R_reads' HO_4.out).2.1); rintro e w' ⟨rfl, ⟨nd, rfl⟩⟩))
     go_ret
     exact ⟨zq, zb25⟩
/-- THE ONE PURE STATEMENT of laws_FnClean: yours. -/
def laws_FnClean.Pure : Prop := ∀ (l0 : List Int), l0.length ≤ maxLen → l0.length * 1 ≤ 140737488351232 → (∀ x ∈ l0, (Lit.int .u8 x).wf = true) → ∃ k, laws_FnClean.f k l0 = some true
theorem laws_FnClean.walk (P : laws_FnClean.Pure) (a0 : Option Addr) (len0 cap0 : Nat) (z0 : List Int) (w : World) (w0 : (a0 = none ∧ len0 = 0 ∧ cap0 = 0 ∧ z0 = []) ∨ ∃ x, a0 = some x ∧ len0 ≤ cap0 ∧ cap0 ≤ maxLen ∧ z0.length = cap0 ∧ (∀ i, i < z0.length → w.cell? (x.add i) = some (.int .u8 (z0.getD i 0))) ∧ ∀ n ∈ z0, (Lit.int .u8 n).wf = true) (y0 : len0 * 1 ≤ 140737488351232) :
 Calls Try.prog 4 #[.slice a0 len0 cap0] w fun e w' => e = .returned (.bool true) ∧ Below w.heap.size w w' := by
 obtain ⟨l0, rfl, hr0, hm0, hw0, hc0⟩ := ReadsInt.ofRowC w0
 obtain ⟨k, h⟩ := P l0 hm0 y0 hw0
 refine (laws_FnClean.calls k _ _ l0 true w (Kd.C_of_reads (d := (0 : Int)) (h1 := fun _ => rfl) hr0) hc0 rfl h).mono ?_
 rintro e w' ⟨rfl, hd⟩
 exact ⟨rfl, hd⟩
end Go.Proofs.Ytapobpkeefeajaa.PFnClean
